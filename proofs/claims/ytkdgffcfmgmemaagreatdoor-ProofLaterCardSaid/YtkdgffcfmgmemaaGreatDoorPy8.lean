/- The references: a record encoded, the next head, the heads of a log. -/
import Derived.Test.YtkdgffcfmgmemaaGreatDoorEz
import Derived.Test.YtkdgffcfmgmemaaGreatDoorPy3
import Derived.Test.YtkdgffcfmgmemaaGreatDoorRt2
import Derived.Test.YtkdgffcfmgmemaaGreatDoorTk1
set_option linter.unusedVariables false
set_option linter.unusedSimpArgs false
namespace Go.Proofs.YtkdgffcfmgmemaaGreatDoor
open Go.Proofs.Tryz
open Go Go.RowKit Gw
set_option maxRecDepth 100000
attribute [local irreducible] Gw.At Gw.Nx Gw.Ops
theorem QJ(a b:List Int):CR (a++b)=CR a++CR b:=by unfold CR;rw [vQ]
theorem qD{c:Chg}(h:c.ok)(hh:c.had=true):∀n∈[c.o.a,c.o.b,c.o.c],-4611686018427387903≤n∧n≤4611686018427387903:=fun n hn=>(NY h).2.1 n (by
 unfold vs2;split
 · rw [SE hh];exact uG _ hn
 · rw [SE hh];exact hn)
theorem qE{c:Chg}(h:c.ok)(hh:c.has=true):∀n∈[c.n.a,c.n.b,c.n.c],-4611686018427387903≤n∧n≤4611686018427387903:=fun n hn=>(NY h).2.1 n (by rw [SC hh];exact tQ _ hn)
set_option maxHeartbeats 1000000 in
theorem bI(p:Int)(q:Option Addr)(cap:Nat)(cs:List Chg)(M:List AR)(hO:Di M (.slice q cs.length cap) cs)(hok:EU p cs):Au Tryz.prog 135 #[.agg #[I4 p,.slice q cs.length cap]] [M] (.tuple #[.string (str (KL p cs)),I4 0]):=by
 have hml:=mL;obtain ⟨p9,cap9,e9,hol,hg⟩:=id hO;injection e9 with e91 e92 e93
 subst e91 e93;have hnum:=NP hok
 have hlen:=hok.len;refine Se func135 ntmps135 [0] ?_;intro u R;refine Zq<|Zg<|Ze (Bx #[_,_]) ?_;rintro _ _ ⟨b1,rfl,rfl⟩;refine Za Y<|Za Y<|Z0<|Zx<|Zq<|Zq<|Zg<|Zo Wh (Pa #[_,_] isAgg73 sizeOf73 Y) ?_;refine Xr [_] Y call109 Y rfl (O1 p q cap cs M hO) ?_;rw [decide_eq_true hok];refine Zv (Ca Y)<|Z0<|Zx ?_;refine Af Y (fun hv=>?_) (fun hv=>?_)
 ·
  cases hv
 refine AC<|Zx<|Zq<|Zg<|Zh 0 underlying73 rfl rfl sizeOf3 Y<|Zl isAgg3 Y ?_;refine Zh 1 underlying73 rfl rfl sizeOf71 Y<|Zl isAgg71 Y ?_;refine Zv (AU underlying71 Y)<|Ze (Ae (vs:=[_,_]) (cs:=[_,_]) underlying210 sizeOf3 zeroValue3 Y rfl rfl rfl rfl rfl) ?_;rintro _ _ ⟨gb,rfl,rfl⟩;refine Xr [_] Y call218 Y rfl (QG gb 0 2 _ _ _ [p,(cs.length:Int)] (Jn [p,(cs.length:Int)]) (by simp) hnum) ?_;refine Za Y<|Z0<|Zn [1,4] ?_;refine Zx<|Zq<|Zq<|Zg<|Za Y<|Z0<|Zx<|AQ<|Zb [4,5,1] ?_;refine Ay (e0:=[(4,_),(5,_)]) (fun m e H=>∃(i:Nat),m=cs.length -i∧(i≤cs.length)∧e=[(4,.string (str ((CR [p,(cs.length:Int)]++(cs.take i).flatMap MZ)))),(5,I4 (i:Int))]∧H=[]) (by exact ⟨0,rfl,tN _,by rw [ug,yh,uL];rfl,rfl⟩) Wp ?_;rintro _ _ _ ⟨i,rfl,hi,rfl,rfl⟩;refine Zq<|Zq<|Zg<|Zm Y<|Zh 1 underlying73 rfl rfl sizeOf71 Y<|Zl isAgg71 Y ?_;refine Zv (AU underlying71 Y)<|Zv (Aq Y Y)<|Z0<|Zx ?_;refine Ao Y (fun hlt=>?_) (fun hlt=>?_)
 ·
  obtain ⟨x,hx⟩:∃x,cs[i]?=some x:=⟨_,sV hlt⟩;obtain ⟨g,off,cur,T,zz,rfl,hm,hsz,hex⟩:=hg i x hx;have hxo:=hok.all i x hx
  obtain ⟨hn1,hn2,hn3,hn4⟩:=NY hxo;have hpl1:=Cu _ hn1
  have hpl2:=Cu _ hn2;have hto:=Td hok i
  have hf1:=YO x;have hv12:(CR (vs1 x)).length≤(CR (vs2 x)).length:=by unfold vs2;split;rw [QJ,si];omega;omega
  have hl3:[x.t,x.k,fl2 x].length=3:=rfl;refine AC<|Zx<|Zq<|AQ<|Zq<|Zg<|Zh 1 underlying73 rfl rfl sizeOf71 Y<|Zl isAgg71 Y ?_;refine Zm Y ?_;refine BM (AZ underlying71 sizeOf77 Y Y (by first|omega|decide|(simp;done))) ?_;refine Cg (cs:=[(g,.cells cur T zz)]) (by simp [hm]) (Ab (cs:=#[I4 x.t,I4 x.k,.bool x.had,I4 x.o.a,I4 x.o.b,I4 x.o.c,.bool x.has,I4 x.n.a,I4 x.n.b,I4 x.n.c]) isAgg77 sizeOf77 Y (by omega) hex) rfl rfl ?_;refine Ze (Al zeroValue77 #[_,_,_,_,_,_,_,_,_,_]) ?_;rintro _ _ ⟨cb,rfl,rfl⟩;refine Xe (Xw sizeOf77 #[I4 x.t,I4 x.k,.bool x.had,I4 x.o.a,I4 x.o.b,I4 x.o.c,.bool x.has,I4 x.n.a,I4 x.n.b,I4 x.n.c]) ?_;refine Z0<|Zx<|Zq<|Zg<|Za Y<|Z0<|Zn [1,4,5,6,7] ?_;refine Zx<|Zb [7,1,4,5,6] ?_;refine CV (e0:=[(7,_)]) (H0:=[]) (fun e H=>(True)∧e=[(7,I4 (fl1 x))]∧H=[]) Wp ?hx_2 ?hy_2
  case hx_2=>
   refine Zq<|Zg<|Zh 2 underlying77 rfl rfl sizeOf4 Y<|Zl isAgg4 Y ?_;refine Z0<|Zx ?_;refine Af Y (fun hh1=>?_) (fun hh1=>?_)
   ·
    refine Zg<|Za Y<|Z0<|Zn [7,1,4,5,6] ?_;refine BB (e':=[(7,_)]) (by exact ⟨trivial,by first|rw [jq hh1]|rw [jr hh1],rfl⟩)
   refine AC<|Zn [7,1,4,5,6] ?_;refine BB (e':=[(7,_)]) (by exact ⟨trivial,by first|rw [jq hh1]|rw [jr hh1],rfl⟩)
  rintro _ _ ⟨_,rfl,rfl⟩;refine Zb [7,1,4,5,6] ?_;refine CV (e0:=[(7,_)]) (H0:=[]) (fun e H=>(True)∧e=[(7,I4 (fl2 x))]∧H=[]) Wp ?hx_5 ?hy_5
  case hx_5=>
   refine Zq<|Zg<|Zh 6 underlying77 rfl rfl sizeOf4 Y<|Zl isAgg4 Y ?_;refine Z0<|Zx ?_;refine Af Y (fun hh2=>?_) (fun hh2=>?_)
   ·
    refine Zg<|Zm Y<|Yi Y Y<|Za Y<|Z0<|Zn [7,1,4,5,6] ?_;refine BB (e':=[(7,_)]) (by exact ⟨trivial,by first|rw [jm hh2]|rw [jo hh2],rfl⟩)
   refine AC<|Zn [7,1,4,5,6] ?_;refine BB (e':=[(7,_)]) (by exact ⟨trivial,by first|rw [jm hh2]|rw [jo hh2],rfl⟩)
  rintro _ _ ⟨_,rfl,rfl⟩;refine Zb [4,7,1,5,6] ?_;refine CV (e0:=[(4,_),(7,_)]) (H0:=[]) (fun e H=>(True)∧e=[(4,.string (str ((CR [p,(cs.length:Int)]++(cs.take i).flatMap MZ)++CR [x.t,x.k,fl2 x])))]∧H=[]) Wp ?hx_8 ?hy_8
  case hx_8=>
   refine Zg<|Zm Y<|Zh 0 underlying77 rfl rfl sizeOf3 Y<|Zl isAgg3 Y ?_;refine Zh 1 underlying77 rfl rfl sizeOf3 Y<|Zl isAgg3 Y ?_;refine Zm Y<|Ze (Ae (vs:=[_,_,_]) (cs:=[_,_,_]) underlying210 sizeOf3 zeroValue3 Y rfl rfl rfl rfl rfl) ?_;rintro _ _ ⟨gp,rfl,rfl⟩;refine Xr [_] Y call218 Y rfl (QG gp 0 3 _ _ _ [x.t,x.k,fl2 x] (Jn [x.t,x.k,fl2 x]) (by simp) hn1) ?_;refine BM (Df Y Y (by rw [Ba,Ba];omega)) ?_;refine Za Y<|Z0<|Zn [4,1,5,6] ?_;refine BB (e':=[(4,_)]) (by exact ⟨trivial,by rw [EA],rfl⟩)
  rintro _ _ ⟨_,rfl,rfl⟩;have hla:((CR [p,(cs.length:Int)]++(cs.take i).flatMap MZ)++CR [x.t,x.k,fl2 x]).length=_:=si
  refine Zb [4,1,5,6] ?_;refine CV (e0:=[(4,_)]) (H0:=[]) (fun e H=>(True)∧e=[(4,.string (str ((CR [p,(cs.length:Int)]++(cs.take i).flatMap MZ)++CR [x.t,x.k,fl2 x]++CR (vs1 x))))]∧H=[]) Wp ?hx_10 ?hy_10
  case hx_10=>
   refine Zq<|Zg<|Zh 2 underlying77 rfl rfl sizeOf4 Y<|Zl isAgg4 Y ?_;refine Z0<|Zx ?_;refine Af Y (fun hh1=>?_) (fun hh1=>?_)
   ·
    refine Zg<|Zm Y<|Zh 3 underlying77 rfl rfl sizeOf75 Y ?_;refine BM (CP (j:=0) underlying75 sizeOf3 Y Y (by first|omega|decide|(simp;done))) ?_;refine Zl isAgg3 Y ?_;refine Zh 3 underlying77 rfl rfl sizeOf75 Y ?_;refine BM (CP (j:=1) underlying75 sizeOf3 Y Y (by first|omega|decide|(simp;done))) ?_;refine Zl isAgg3 Y ?_;refine Zh 3 underlying77 rfl rfl sizeOf75 Y ?_;refine BM (CP (j:=2) underlying75 sizeOf3 Y Y (by first|omega|decide|(simp;done))) ?_;refine Zl isAgg3 Y ?_;refine Ze (Ae (vs:=[_,_,_]) (cs:=[_,_,_]) underlying210 sizeOf3 zeroValue3 Y rfl rfl rfl rfl rfl) ?_;rintro _ _ ⟨gq,rfl,rfl⟩;refine Xr [_] Y call218 Y rfl (QG gq 0 3 _ _ _ [x.o.a,x.o.b,x.o.c] (Jn [x.o.a,x.o.b,x.o.c]) (by simp) (qD hxo hh1)) ?_;refine BM (Df Y Y (by(have h9:=Cu _ (qD hxo hh1);simp only [tL,uz]at h9;rw [Ba,Ba];omega))) ?_;refine Za Y<|Z0<|Zn [4,1,5,6] ?_;refine BB (e':=[(4,_)]) (by exact ⟨trivial,by(rw [SE hh1,EA];done),rfl⟩)
   refine AC<|Zn [4,1,5,6] ?_;refine BB (e':=[(4,_)]) (by exact ⟨trivial,by(rw [fP hh1];simp [CR];done),rfl⟩)
  rintro _ _ ⟨_,rfl,rfl⟩;have hlb:((CR [p,(cs.length:Int)]++(cs.take i).flatMap MZ)++CR [x.t,x.k,fl2 x]++CR (vs1 x)).length=_:=si
  refine Zq<|Zg<|Zh 6 underlying77 rfl rfl sizeOf4 Y<|Zl isAgg4 Y ?_;refine Z0<|Zx ?_;refine Af Y (fun hh2=>?_) (fun hh2=>?_)
  ·
   refine Zg<|Zm Y<|Zh 7 underlying77 rfl rfl sizeOf75 Y ?_;refine BM (CP (j:=0) underlying75 sizeOf3 Y Y (by first|omega|decide|(simp;done))) ?_;refine Zl isAgg3 Y ?_;refine Zh 7 underlying77 rfl rfl sizeOf75 Y ?_;refine BM (CP (j:=1) underlying75 sizeOf3 Y Y (by first|omega|decide|(simp;done))) ?_;refine Zl isAgg3 Y ?_;refine Zh 7 underlying77 rfl rfl sizeOf75 Y ?_;refine BM (CP (j:=2) underlying75 sizeOf3 Y Y (by first|omega|decide|(simp;done))) ?_;refine Zl isAgg3 Y ?_;refine Ze (Ae (vs:=[_,_,_]) (cs:=[_,_,_]) underlying210 sizeOf3 zeroValue3 Y rfl rfl rfl rfl rfl) ?_;rintro _ _ ⟨gr,rfl,rfl⟩;refine Xr [_] Y call218 Y rfl (QG gr 0 3 _ _ _ [x.n.a,x.n.b,x.n.c] (Jn [x.n.a,x.n.b,x.n.c]) (by simp) (qE hxo hh2)) ?_;refine BM (Df Y Y (by(have h9:=Cu _ (qE hxo hh2);simp only [tL,uz]at h9;rw [Ba,Ba];omega))) ?_;refine Za Y<|Z0<|Zn [1,4,5] ?_;refine A8<|Zx<|Zg<|Zm Y<|Ya (n:=1) Y Y<|Za Y<|Z0<|Zn [4,5,1] ?_;refine AY (e':=[(4,_),(5,_)]) (by exact ⟨i+1,rfl,by omega,by rw [R7 _ hx,SC hh2,QJ,EA];simp only [tF],rfl⟩)
  refine AC<|A8<|Zx<|Zg<|Zm Y<|Ya (n:=1) Y Y<|Za Y<|Z0<|Zn [4,5,1] ?_;refine AY (e':=[(4,_),(5,_)]) (by exact ⟨i+1,rfl,by omega,by rw [R7 _ hx,V5 hh2];simp only [tF],rfl⟩)
 refine Ar<|Zt<|Zt<|AO<|Zx<|Zq<|Zg<|Zm Y<|Za Y<|Za Y<|Z0<|Zx<|A9 ?_;refine Dc rfl results135 Y Y (by exact ⟨by rw [uH (by omega)];rfl,rfl⟩)
theorem iF(h:Cr)(hh:h.ok):Au Tryz.prog 134 #[.agg #[I4 h.p,.string (str h.ch),.string (str h.st)]] [] (.bool true):=by
 obtain ⟨⟨h1,h2⟩,h3,h4⟩:=hh;refine Se func134 ntmps134 [0] ?_;intro u R;refine Zq<|Zg<|Ze (Bx #[_,_,_]) ?_;rintro _ _ ⟨b1,rfl,rfl⟩;refine Za Y<|Z0<|Zx<|Zq<|Zg<|Zh 0 underlying67 rfl rfl sizeOf3 Y<|Zl isAgg3 Y ?_;refine Zv (GZ Y Y)<|Zm Y ?_;refine Ai (t:=6) Y rfl (fun g1=>?_) (fun g1=>?_)
 ·
  refine Yf 0 underlying67 rfl rfl sizeOf3 Y<|Yl isAgg3 Y ?_;refine Yg (Kl Y Y)<|Zv (AL Y Y)<|Zm Y ?_;refine Ai (t:=11) Y rfl (fun g2=>?_) (fun g2=>?_)
  ·
   refine Yf 1 underlying67 rfl rfl sizeOf9 Y<|Yl isAgg9 Y ?_;refine Yg (EO underlying9 Y)<|Yg (C8 (n:=32) Y Y)<|Zv (AL Y Y)<|Zm Y ?_;refine Ai (t:=17) Y rfl (fun g3=>?_) (fun g3=>?_)
   ·
    refine Yf 2 underlying67 rfl rfl sizeOf9 Y<|Yl isAgg9 Y ?_;refine Yg (EO underlying9 Y)<|Yg (C8 (n:=32) Y Y)<|Zv (AL Y Y)<|Za Y<|Z0<|Zn [2] ?_;refine Zx<|A9 ?_;refine AB rfl results134 Y (by exact ⟨congrArg Value.bool (decide_eq_true (by rw [Ba];omega)),rfl⟩)
   exfalso;first|omega|(rw [Ba]at g3;omega)
  exfalso;first|omega|(rw [Ba]at g2;omega)
 exfalso;first|omega|(rw [Ba]at g1;omega)
theorem lg(h:Cr)(r:Bo)(st:List UInt8){M:List AR}(hO:Di M (.slice r.q r.cs.length r.cap) r.cs)(hn:FQ h r st):Au Tryz.prog 67 #[.agg #[I4 h.p,.string (str h.ch),.string (str h.st)],.agg #[I4 r.p,.slice r.q r.cs.length r.cap],.string (str st)] [M] (.tuple #[.agg #[I4 (GH h r st).p,.string (str (GH h r st).ch),.string (str (GH h r st).st)],I4 0]):=by
 have hml:=mL;obtain ⟨hok,hh,hst,hp⟩:=id hn;have h21:=hh.1
 have h22:=hh.2.1;have hel:=R9 hok
 have hlen:=hok.len;refine Se func67 ntmps67 [0,1,2] ?_;intro u R;refine Zq<|Zg<|Ze (Bx #[_,_,_]) ?_;rintro _ _ ⟨b1,rfl,rfl⟩;refine Ze (Bx #[_,_]) ?_;rintro _ _ ⟨b2,rfl,rfl⟩;refine Ze (Al zeroValue67 #[_,_,_]) ?_;rintro _ _ ⟨b3,rfl,rfl⟩;refine Za Y<|Z0<|Zx<|Zq<|Zq<|Zg<|Zo Wh (Ab (cs:=#[_,_,_]) isAgg67 sizeOf67 Y Wb (by exact Av rfl)) ?_;refine Xr [_] Y call134 Y rfl (iF h hh) ?_;refine Zv (Ca Y)<|Zm Y ?_;refine Ak (t:=13) Y rfl (fun g1=>?_) (fun g1=>?_)
 ·
  cases g1
 refine D8 Y Wh (Ab (cs:=#[_,_]) isAgg73 sizeOf73 Y Wb (by exact Av rfl)) rfl rfl ?_;refine Xr [_] Y call109 Y rfl (O1 r.p r.q r.cap r.cs M hO) ?_;rw [decide_eq_true hok];refine Yg (Ca Y)<|Zv (AA Y Y)<|Zm Y ?_;refine Ak (t:=18) Y rfl (fun g2=>?_) (fun g2=>?_)
 ·
  cases g2
 refine Yf 0 underlying73 rfl rfl sizeOf3 Y<|Yl isAgg3 Y ?_;refine Yf 0 underlying67 rfl rfl sizeOf3 Y<|Yl isAgg3 Y ?_
 (refine FZ Y (JJ Y Y (IntWalk.i64_in _ ?_)) rfl rfl ?_;(focus (omega)))
 refine Yg (IL Y Y)<|Zv (AA Y Y)<|Zm Y ?_;refine Ai (t:=26) Y rfl (fun g3=>?_) (fun g3=>?_)
 ·
  exfalso;omega
 refine Zf Y Y<|Yg (EO underlying9 Y)<|Yg (Dy (n:=32) Y Y)<|Zv (AA Y Y)<|Z0<|Zn [2,3,4,6,30] ?_;refine Zx ?_;refine Ao Y (fun g4=>?_) (fun g4=>?_)
 ·
  exfalso;rw [Ba]at g4;omega
 refine AC<|Zx<|Zq<|Zg<|Zo Wh (Ab (cs:=#[_,_]) isAgg73 sizeOf73 Y Wb (by exact Av rfl)) ?_;refine Xr [_] Y call135 Y rfl (bI r.p r.q r.cap r.cs M hO hok) ?_;refine Zm Y<|Zd Y rfl<|Zd Y rfl<|Za Y<|Za Y<|Z0<|Zx<|Zq<|BK (n:=10) (0::1::0::4::0::28::0::127::255::511::[]) 288 (by kernel_rfl) (by kernel_rfl) rfl ?_;refine Zi 1 0 rfl (Aa (off:=0) underlying73 rfl rfl sizeOf3 Y)<|Zj 3 1 rfl isAgg3 Y ?_;refine Zi 7 2 rfl (Aa (off:=1) underlying67 rfl rfl sizeOf9 Y)<|Zj 15 3 rfl isAgg9 Y ?_;refine Zi 31 4 rfl (AJ Y)<|Zi 95 6 rfl (AJ Y)<|Zz (l:=[5]) ?_;refine Zy 28 127 [3,1] [false,true] [(1,(_,_))] rfl Y rfl rfl rfl rfl (Zu [_,_] Y call136 Y rfl (VZ h.ch (KL r.p r.cs) (by omega))) ?hk_1 (fun _ _ h=>h.elim) ?hl_1
 case hk_1=>
  rintro _ _ ⟨rfl,rfl⟩;refine ⟨Zk (Ad),?_⟩;refine Zi 255 7 rfl (BJ (vs:=[(0,_),(1,_),(2,_)]) (cs:=#[_,_,_]) Y (AX (pl:=#[(0,1),(1,1),(2,1)]) zeroValue67 underlying67 (fun _=>by kernel_rfl) rfl)) ?_;refine Yw 8 511 rfl (BO sizeOf67 Y Y (by(simp [Value.oneCell',Value.cells];done)) Wu (by exact DW rfl) (by first|rfl|(simp;done)) Wb (by exact BQ _)) ?_;rintro _ _ ⟨rfl,rfl⟩;refine Zi 1023 9 rfl (BA Y)<|Am ?_;refine Zn [6,7] ?_;refine Zx<|A9 ?_;refine Bc rfl results67 Y Wh (Ag isAgg67 sizeOf67 Wn (Av rfl)) Y (by exact ⟨rfl,rfl⟩)
 exact Aw
def EQ(l:List Bo):Nat→Cr
 |0=>⟨0,Cs,Db []⟩
 |i+1=>match l[i]?with
  |some r=>GH (EQ l i) r (Db (Bb (l.take (i+1))))
  |none=>EQ l i
def Kv(l:List Bo)(n:Nat):List Cr:=(List.range n).map (EQ l)
theorem WN(l:List Bo)(n:Nat):Kv l (n+1)=Kv l n++[EQ l n]:=by unfold Kv;rw [yO,uD];rfl
theorem KC{l:List Bo}{i:Nat}{r:Bo}(hr:l[i]?=some r):EQ l (i+1)=GH (EQ l i) r (Db (Bb (l.take (i+1)))):=by
 rw [EQ,hr]
theorem Nz(rs:List AP):(Db rs).length=32:=Ej _
theorem Ox(h r:Bs):(Mc h r).length=32:=LP _
theorem J3{l:List Bo}(hl:DR l)(h9:l.length≤9000):∀i,i≤l.length→(EQ l i).ok∧(EQ l i).p=(i:Int)∧(EQ l i).st=Db (Bb (l.take i))
 |0,_=>⟨⟨⟨by show(0:Int)≤0;decide,by show(0:Int)≤10000;decide⟩,List.length_replicate,Nz _⟩,rfl,by rw [ug];rfl⟩
 |i+1,hi=>by
  obtain ⟨r,hr⟩:∃r,l[i]?=some r:=⟨_,sV (by omega)⟩;have hp:r.p=(i:Int)+1:=(hl i r hr).1.pos
  rw [KC hr];exact ⟨⟨⟨by show 0≤r.p;omega,by show r.p≤10000;omega⟩,Ox _ _,Nz _⟩,by show r.p=_;rw [hp];rfl,rfl⟩
theorem j6{l:List Bo}(hl:DR l)(h9:l.length≤9000){i:Nat}{r:Bo}(hr:l[i]?=some r){st:Bs}(hst:st.length=32):FQ (EQ l i) r st:=by
 have hi:=(sW.1 hr).1;obtain ⟨h1,h2,_⟩:=J3 hl h9 i (by omega);have ha:=(hl i r hr).1
 exact ⟨ha.ok,h1,hst,by rw [h2];exact ha.pos⟩
set_option maxHeartbeats 2000000 in
theorem bL{M:List AR}{lv:Value}{l:List Bo}(hl:Dw M lv l)(hlog:DR l)(hll:l.length≤9000):CK Tryz.prog 22 #[lv] [M] (fun w H'=>∃sh,BX 3 67 w (l.length+1) (Gm (Kv l (l.length+1))) sh∧H'=[sh,M]):=by
 have hml:=mL;obtain ⟨pl,cl,rfl,⟨hl1,hlc⟩,hg⟩:=id hl;refine Se func22 ntmps22 [0] ?_;intro u R;refine Zq<|Zg<|Za Y<|Z0<|Zx<|Zq<|Zg<|Zc [] Y call47 Y rfl (iH) ?_;rintro _ _ ⟨_,⟨sp,rfl,rfl⟩,rfl⟩;refine Za Y<|Z0<|Zx<|Bd ?_;refine Zb [0,3] ?_;refine CV (e0:=[]) (H0:=[[(sp,.cells #[.slice none 0 0,I4 0] 182 (0,0))],[]]) (fun e H=>∃(bh:Nat),(True)∧e=[(4,I5 bh)]∧H=[[(sp,.cells #[.slice none 0 0,I4 0] 182 (0,0))],[],[(bh,.cells #[I4 (⟨0,Cs,Db []⟩:Cr).p,.string (str (⟨0,Cs,Db []⟩:Cr).ch),.string (str (⟨0,Cs,Db []⟩:Cr).st)] 67 (0,0))]]) Wp ?hx_1 ?hy_1
 case hx_1=>
  refine BK (n:=7) (0::1::0::4::15::0::63::[]) 105 (by kernel_rfl) (by kernel_rfl) rfl ?_;refine Zi 4 2 rfl (AJ Y)<|Zz (l:=[0,3,5]) ?_;refine Zy 0 5 [] [] [] rfl Y rfl rfl rfl rfl (Fy (by_:=1) (l:=32) (c:=32) underlying124 (rfl:Tryz.prog.info? 5=some Tryz.t5) rfl rfl rfl rfl Y Y ?_ ?_ ?_) ?hk_2 (fun _ _ h=>h.elim) ?hl_2
  (focus (decide))
  (focus (decide))
  (focus (decide))
  case hk_2=>
   rintro _ _ ⟨mk,rfl,rfl⟩;refine ⟨Ad,?_⟩;refine DY (D':=7) 1 rfl rfl rfl Wh (D6 underlying124 underlying5 underlying9 Y (by exact (show(_=List.map u8v Cs)∧Cs.length=_ from⟨rfl,rfl⟩))) ?_;refine Zz (l:=[3,5]) ?_;refine Zy 4 15 [1] [true] [(1,(_,_))] rfl Y rfl rfl rfl rfl (Zu [_] Y call66 Y rfl (Jd sp 0 (.slice none 0 0) [] [] (BV 5 _) (by decide) .nil (by simp))) ?hk_3 (fun _ _ h=>h.elim) ?hl_3
   case hk_3=>
    rintro _ _ ⟨rfl,rfl⟩;refine ⟨Zk (Ad),?_⟩;refine Zi 31 4 rfl (BJ (vs:=[(1,.string (str Cs)),(2,.string (str (Db [])))]) (cs:=#[I4 0,.string (str Cs),.string (str (Db []))]) Y (AX (pl:=#[(0,1),(1,1),(2,1)]) zeroValue67 underlying67 (fun _=>by kernel_rfl) (by kernel_rfl))) ?_;refine Yz 5 0 63 [1] [true] [(1,(_,_))] rfl Y rfl rfl rfl rfl (Al zeroValue67 #[_,_,_]) ?_;rintro _ _ ⟨bh,rfl,rfl⟩;refine ⟨Zk (Ad),?_⟩;refine Yw 6 127 rfl (Xw sizeOf67 #[I4 0,.string (str Cs),.string (str (Db []))]) ?_;rintro _ _ ⟨rfl,rfl⟩;refine Am ?_;refine Zn [4,0,3] ?_;refine BB (e':=[(4,_)]) (by exact ⟨bh,trivial,rfl,rfl⟩)
   refine Zy 0 39 [1] [true] [(1,(_,_))] rfl Y rfl rfl rfl rfl (Al zeroValue67 #[_,_,_]) ?hk_7 (fun _ _ h=>h.elim) ?hl_7
   case hk_7=>
    rintro _ _ ⟨bh,rfl,rfl⟩;refine ⟨Zk (Ad),?_⟩;refine Yz 3 4 47 [1] [true] [(1,(_,_))] rfl Y rfl rfl rfl rfl (Zu [_] Y call66 Y rfl (Jd sp 0 (.slice none 0 0) [] [] (BV 5 _) (by decide) .nil (by simp))) ?_;rintro _ _ ⟨rfl,rfl⟩;refine ⟨Zk (Ad),?_⟩;refine Zi 63 4 rfl (BJ (vs:=[(1,.string (str Cs)),(2,.string (str (Db [])))]) (cs:=#[I4 0,.string (str Cs),.string (str (Db []))]) Y (AX (pl:=#[(0,1),(1,1),(2,1)]) zeroValue67 underlying67 (fun _=>by kernel_rfl) (by kernel_rfl))) ?_;refine Yw 6 127 rfl (Xw sizeOf67 #[I4 0,.string (str Cs),.string (str (Db []))]) ?_;rintro _ _ ⟨rfl,rfl⟩;refine Am ?_;refine Zn [4,0,3] ?_;refine BB (e':=[(4,_)]) (by exact ⟨bh,trivial,rfl,rfl⟩)
   exact Aw
  refine Zy 4 12 [] [] [] rfl Y rfl rfl rfl rfl (Zu [_] Y call66 Y rfl (Jd sp 0 (.slice none 0 0) [] [] (BV 5 _) (by decide) .nil (by simp))) ?hk_11 (fun _ _ h=>h.elim) ?hl_11
  case hk_11=>
   rintro _ _ ⟨rfl,rfl⟩;refine ⟨Ad,?_⟩;refine Zz (l:=[0,5]) ?_;refine Zy 0 13 [] [] [] rfl Y rfl rfl rfl rfl (Fy (by_:=1) (l:=32) (c:=32) underlying124 (rfl:Tryz.prog.info? 5=some Tryz.t5) rfl rfl rfl rfl Y Y ?_ ?_ ?_) ?hk_12 (fun _ _ h=>h.elim) ?hl_12
   (focus (decide))
   (focus (decide))
   (focus (decide))
   case hk_12=>
    rintro _ _ ⟨mk,rfl,rfl⟩;refine ⟨Ad,?_⟩;refine DY (D':=15) 1 rfl rfl rfl Wh (D6 underlying124 underlying5 underlying9 Y (by exact (show(_=List.map u8v Cs)∧Cs.length=_ from⟨rfl,rfl⟩))) ?_;refine Zi 31 4 rfl (BJ (vs:=[(1,.string (str Cs)),(2,.string (str (Db [])))]) (cs:=#[I4 0,.string (str Cs),.string (str (Db []))]) Y (AX (pl:=#[(0,1),(1,1),(2,1)]) zeroValue67 underlying67 (fun _=>by kernel_rfl) (by kernel_rfl))) ?_;refine Yz 5 0 63 [1] [true] [(1,(_,_))] rfl Y rfl rfl rfl rfl (Al zeroValue67 #[_,_,_]) ?_;rintro _ _ ⟨bh,rfl,rfl⟩;refine ⟨Zk (Ad),?_⟩;refine Yw 6 127 rfl (Xw sizeOf67 #[I4 0,.string (str Cs),.string (str (Db []))]) ?_;rintro _ _ ⟨rfl,rfl⟩;refine Am ?_;refine Zn [4,0,3] ?_;refine BB (e':=[(4,_)]) (by exact ⟨bh,trivial,rfl,rfl⟩)
   refine Zy 0 44 [] [] [] rfl Y rfl rfl rfl rfl (Al zeroValue67 #[_,_,_]) ?hk_16 (fun _ _ h=>h.elim) ?hl_16
   case hk_16=>
    rintro _ _ ⟨bh,rfl,rfl⟩;refine ⟨Ad,?_⟩;refine Zz (l:=[0]) ?_;refine Zy 0 45 [] [] [] rfl Y rfl rfl rfl rfl (Fy (by_:=1) (l:=32) (c:=32) underlying124 (rfl:Tryz.prog.info? 5=some Tryz.t5) rfl rfl rfl rfl Y Y ?_ ?_ ?_) ?hk_17 (fun _ _ h=>h.elim) ?hl_17
    (focus (decide))
    (focus (decide))
    (focus (decide))
    case hk_17=>
     rintro _ _ ⟨mk,rfl,rfl⟩;refine ⟨Ad,?_⟩;refine DY (D':=47) 1 rfl rfl rfl Wh (D6 underlying124 underlying5 underlying9 Y (by exact (show(_=List.map u8v Cs)∧Cs.length=_ from⟨rfl,rfl⟩))) ?_;refine Zi 63 4 rfl (BJ (vs:=[(1,.string (str Cs)),(2,.string (str (Db [])))]) (cs:=#[I4 0,.string (str Cs),.string (str (Db []))]) Y (AX (pl:=#[(0,1),(1,1),(2,1)]) zeroValue67 underlying67 (fun _=>by kernel_rfl) (by kernel_rfl))) ?_;refine Yw 6 127 rfl (Xw sizeOf67 #[I4 0,.string (str Cs),.string (str (Db []))]) ?_;rintro _ _ ⟨rfl,rfl⟩;refine Am ?_;refine Zn [4,0,3] ?_;refine BB (e':=[(4,_)]) (by exact ⟨bh,trivial,rfl,rfl⟩)
    exact Aw
   exact Aw
  refine Zy 0 36 [] [] [] rfl Y rfl rfl rfl rfl (Al zeroValue67 #[_,_,_]) ?hk_20 (fun _ _ h=>h.elim) ?hl_20
  case hk_20=>
   rintro _ _ ⟨bh,rfl,rfl⟩;refine ⟨Ad,?_⟩;refine Zz (l:=[0,3]) ?_;refine Zy 0 37 [] [] [] rfl Y rfl rfl rfl rfl (Fy (by_:=1) (l:=32) (c:=32) underlying124 (rfl:Tryz.prog.info? 5=some Tryz.t5) rfl rfl rfl rfl Y Y ?_ ?_ ?_) ?hk_21 (fun _ _ h=>h.elim) ?hl_21
   (focus (decide))
   (focus (decide))
   (focus (decide))
   case hk_21=>
    rintro _ _ ⟨mk,rfl,rfl⟩;refine ⟨Ad,?_⟩;refine DY (D':=39) 1 rfl rfl rfl Wh (D6 underlying124 underlying5 underlying9 Y (by exact (show(_=List.map u8v Cs)∧Cs.length=_ from⟨rfl,rfl⟩))) ?_;refine Yz 3 4 47 [1] [true] [(1,(_,_))] rfl Y rfl rfl rfl rfl (Zu [_] Y call66 Y rfl (Jd sp 0 (.slice none 0 0) [] [] (BV 5 _) (by decide) .nil (by simp))) ?_;rintro _ _ ⟨rfl,rfl⟩;refine ⟨Zk (Ad),?_⟩;refine Zi 63 4 rfl (BJ (vs:=[(1,.string (str Cs)),(2,.string (str (Db [])))]) (cs:=#[I4 0,.string (str Cs),.string (str (Db []))]) Y (AX (pl:=#[(0,1),(1,1),(2,1)]) zeroValue67 underlying67 (fun _=>by kernel_rfl) (by kernel_rfl))) ?_;refine Yw 6 127 rfl (Xw sizeOf67 #[I4 0,.string (str Cs),.string (str (Db []))]) ?_;rintro _ _ ⟨rfl,rfl⟩;refine Am ?_;refine Zn [4,0,3] ?_;refine BB (e':=[(4,_)]) (by exact ⟨bh,trivial,rfl,rfl⟩)
   refine Zy 4 44 [] [] [] rfl Y rfl rfl rfl rfl (Zu [_] Y call66 Y rfl (Jd sp 0 (.slice none 0 0) [] [] (BV 5 _) (by decide) .nil (by simp))) ?hk_25 (fun _ _ h=>h.elim) ?hl_25
   case hk_25=>
    rintro _ _ ⟨rfl,rfl⟩;refine ⟨Ad,?_⟩;refine Zz (l:=[0]) ?_;refine Zy 0 45 [] [] [] rfl Y rfl rfl rfl rfl (Fy (by_:=1) (l:=32) (c:=32) underlying124 (rfl:Tryz.prog.info? 5=some Tryz.t5) rfl rfl rfl rfl Y Y ?_ ?_ ?_) ?hk_26 (fun _ _ h=>h.elim) ?hl_26
    (focus (decide))
    (focus (decide))
    (focus (decide))
    case hk_26=>
     rintro _ _ ⟨mk,rfl,rfl⟩;refine ⟨Ad,?_⟩;refine DY (D':=47) 1 rfl rfl rfl Wh (D6 underlying124 underlying5 underlying9 Y (by exact (show(_=List.map u8v Cs)∧Cs.length=_ from⟨rfl,rfl⟩))) ?_;refine Zi 63 4 rfl (BJ (vs:=[(1,.string (str Cs)),(2,.string (str (Db [])))]) (cs:=#[I4 0,.string (str Cs),.string (str (Db []))]) Y (AX (pl:=#[(0,1),(1,1),(2,1)]) zeroValue67 underlying67 (fun _=>by kernel_rfl) (by kernel_rfl))) ?_;refine Yw 6 127 rfl (Xw sizeOf67 #[I4 0,.string (str Cs),.string (str (Db []))]) ?_;rintro _ _ ⟨rfl,rfl⟩;refine Am ?_;refine Zn [4,0,3] ?_;refine BB (e':=[(4,_)]) (by exact ⟨bh,trivial,rfl,rfl⟩)
    exact Aw
   exact Aw
  exact Aw
 rintro _ _ ⟨bh,_,rfl,rfl⟩;refine Zq<|Zg<|Zo Wh (Ab (cs:=#[_,_,_]) isAgg67 sizeOf67 Y Wb (by exact Av rfl)) ?_;refine Ze (Ae (vs:=[_]) (cs:=[_,_,_]) underlying60 sizeOf67 zeroValue67 Y rfl rfl rfl rfl rfl) ?_;rintro _ _ ⟨go,rfl,rfl⟩;refine Za Y<|Z0<|Zx<|Zq<|Zq<|Zg<|Za Y<|Z0<|Zx<|AQ<|Zb [5,6,0,3,4] ?_;refine Ay (e0:=[(5,_),(6,_)]) (fun m e H=>∃(i:Nat) (rs:List AP) (h:Cr) (w:Value) (sv:List AR) (go:Option Addr) (co:Nat) (so:List AR),m=l.length -i∧(i≤l.length∧rs=Bb (l.take i)∧h=EQ l i∧BX 5 113 w rs.length (Ac rs) sv∧BX 3 67 (.slice go (i+1) co) (i+1) (Gm (Kv l (i+1))) so)∧e=[(5,.slice go (i+1) co),(6,I4 (i:Int))]∧H=[[(sp,.cells #[w,I4 (i:Int)] 182 (0,0))],sv,[(bh,.cells #[I4 h.p,.string (str h.ch),.string (str h.st)] 67 (0,0))],so]) (by exact ⟨0,[],⟨0,Cs,Db []⟩,.slice none 0 0,[],some ⟨go,0,none⟩,1,_,rfl,⟨tN _,by rw [ug];rfl,rfl,BV 5 _,Ir 3 67 go 1 [I4 (⟨0,Cs,Db []⟩:Cr).p,.string (str (⟨0,Cs,Db []⟩:Cr).ch),.string (str (⟨0,Cs,Db []⟩:Cr).st)] rfl (by decide)⟩,rfl,rfl⟩) Wp ?_;rintro _ _ _ ⟨i,rs,h,w,sv,go,co,so,rfl,⟨hi,hrs,hh,hrw,hso⟩,rfl,rfl⟩;refine Zq<|Zq<|Zg<|Zm Y<|Zm Y<|Zv (AU underlying28 Y)<|Zv (Aq Y Y)<|Z0<|Zx ?_;refine Ao Y (fun hlt=>?_) (fun hlt=>?_)
 ·
  obtain ⟨r,hr⟩:∃r,l[i]?=some r:=⟨_,sV (by omega)⟩;obtain ⟨hOr,g,off,cur,T,zz,rfl,hm9,hsz9,hex9⟩:=hg i r hr;obtain ⟨hA,_⟩:=hlog i r hr;have hrp:=hA.pos
  obtain ⟨hsr,hle⟩:=hlog.rows i (by omega);rw [←hrs]at hA hsr hle;obtain ⟨hs2,hn2⟩:=RH hsr hA;obtain ⟨rs2,hrs20⟩:∃rs2,rs2=DF rs r.cs:=⟨_,rfl⟩;have hrs2:rs2=Bb (l.take (i+1)):=by rw [Bp hr,FK,←hrs,hrs20]
  rw [←hrs20]at hs2 hn2;have hok2:∀x∈rs2,x.ok:=by rw [hrs2];exact hlog.rowsOk (i+1) (by omega)
  have hnx:FQ h r (Db rs2):=by rw [hh];exact j6 hlog hll hr (Nz _)
  refine AC<|Zx<|Zq<|AQ<|Zq<|Zg<|Zm Y<|Zm Y<|Zm Y ?_;refine BM (AZ underlying28 sizeOf73 Y Y (by first|omega|decide|(simp;done))) ?_;refine Cg (cs:=[(g,.cells cur T zz)]) (by simp [hm9]) (Ab (cs:=#[I4 r.p,.slice r.q r.cs.length r.cap]) isAgg73 sizeOf73 Y (by omega) hex9) rfl rfl ?_;refine Zc [_,_] Y call48 Y rfl (Ve sp (i:Int) r.p w rs sv M r.q r.cap r.cs hrw hOr hsr hle (by omega) hA) ?_;rintro _ _ ⟨_,⟨rfl,v2,sv2,hrw2,rfl⟩,rfl⟩;rw [←hrs20]at hrw2;rw [show r.p=((i+1:Nat):Int) by rw [hrp];rfl];refine Z0<|Zx<|Zq<|BK (n:=12) (0::0::0::6::14::0::32::127::255::511::511::1023::[]) 2240 (by kernel_rfl) (by kernel_rfl) rfl ?_;refine DY (D':=1) 0 rfl rfl rfl Wh (Ab (cs:=#[_,_,_]) isAgg67 sizeOf67 Y Wb (by exact Av rfl)) ?_;refine Zi 3 1 rfl (AJ Y)<|Zi 7 2 rfl (AJ Y) ?_;refine Zi 15 3 rfl (AZ underlying28 sizeOf73 Y Y (by first|omega|decide|(simp;done))) ?_;refine Fs (b:=g) (x:= .cells cur T zz) (D':=31) 4 rfl rfl rfl (by simp [hm9]) (Ab (cs:=#[I4 r.p,.slice r.q r.cs.length r.cap]) isAgg73 sizeOf73 Y (by omega) hex9) ?_;refine Zi 63 5 rfl (AJ Y)<|Zz (l:=[6]) ?_;refine Zy 32 127 [4,0] [true,true] [(4,(_,_)),(0,(_,_))] rfl Y rfl rfl rfl rfl (Zu [_] Y call66 Y rfl (Jd sp _ v2 rs2 sv2 hrw2 hn2 hs2 hok2)) ?hk_30 (fun _ _ h=>h.elim) ?hl_30
  case hk_30=>
   rintro _ _ ⟨rfl,rfl⟩;refine ⟨KA (by simp [*]) (Zk (Ad)),?_⟩;refine Yw 7 255 rfl (Zu [_,_,_] Y call67 Y rfl (lg h r (Db rs2) hOr hnx)) ?_;rintro _ _ ⟨rfl,rfl⟩;refine Zi 511 8 rfl (AJ Y)<|Zi 1023 9 rfl (Cc Y rfl)<|Zi 2047 10 rfl (Cc Y rfl)<|Zz (l:=[11]) ?_;refine Zy 1023 4095 [] [] [] rfl Y rfl rfl rfl rfl (BO sizeOf67 Y Y (by(simp [Value.oneCell'];done)) Wu (by exact DW rfl) (by first|rfl|(simp;done)) Wb (by exact BQ _)) ?hk_32 (fun _ _ h=>h.elim) ?hl_32
   case hk_32=>
    rintro _ _ ⟨rfl,rfl⟩;refine ⟨Ad,?_⟩;refine Am ?_;refine Zn [0,3,4,5,6] ?_;refine Zx<|Zg<|Zm Y<|Zo Wh (Ab (cs:=#[_,_,_]) isAgg67 sizeOf67 Y Wb (by exact Av rfl)) ?_;refine Ze (Ae (vs:=[_]) (cs:=[_,_,_]) underlying60 sizeOf67 zeroValue67 Y rfl rfl rfl rfl rfl) ?_;rintro _ _ ⟨gb,rfl,rfl⟩;refine Ze (BR (by_:=40) (sz:=3) underlying60 (rfl:Tryz.prog.info? 67=some Tryz.t67) rfl rfl rfl rfl Y (hso) Y (Da 3 gb 1 1 67 (0,0) [I4 (GH h r (Db rs2)).p,.string (str (GH h r (Db rs2)).ch),.string (str (GH h r (Db rs2)).st)] rfl) Wo Wo (by simp [Value.oneCell']) (by omega) (by omega)) ?_;rintro _ _ ⟨sw5,hrw5,rfl⟩;obtain ⟨gw5,cw5,rfl⟩:=hrw5.form;refine Za Y<|Z0<|A8<|Zx<|Zg<|Zm Y<|Ya (n:=1) Y Y<|Za Y<|Z0<|Zn [5,6,0,3,4] ?_;refine AY (e':=[(5,_),(6,_)]) (by exact ⟨i+1,rs2,GH h r (Db rs2),v2,sv2,gw5,cw5,sw5,rfl,⟨by omega,hrs2,by rw [KC hr,←hh,←hrs2],hrw2,BP hrw5 rfl (by rw [WN l (i+1),Rm,KC hr,←hh,←hrs2];rfl)⟩,rfl,rfl⟩)
   exact Aw
  exact Aw
 have ei:i=l.length:=by omega
 subst ei;refine Ar<|Zt<|Zt<|AO<|Zx<|Zq<|Zg<|Zm Y<|Za Y<|Z0<|Zx<|A9 ?_;refine AB rfl results22 Y (by exact ⟨so,hso,rfl⟩)
end Go.Proofs.YtkdgffcfmgmemaaGreatDoor
