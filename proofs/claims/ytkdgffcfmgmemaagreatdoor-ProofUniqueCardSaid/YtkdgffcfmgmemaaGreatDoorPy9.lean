/- The references: a record encoded, the next head, the heads of a log. -/
/- The helpers of the laws of chapter 11. -/
import Derived.Test.YtkdgffcfmgmemaaGreatDoorEz
import Derived.Test.YtkdgffcfmgmemaaGreatDoorPy3
import Derived.Test.YtkdgffcfmgmemaaGreatDoorRt2
import Derived.Test.YtkdgffcfmgmemaaGreatDoorTk1
import Derived.Test.YtkdgffcfmgmemaaGreatDoorEx31
import Derived.Test.YtkdgffcfmgmemaaGreatDoorPy7
set_option linter.unusedVariables false
set_option linter.unusedSimpArgs false
namespace Go.Proofs.YtkdgffcfmgmemaaGreatDoor
open Go.Proofs.Tryz
open Go Go.RowKit Gw
set_option maxRecDepth 100000
attribute [local irreducible] Gw.At Gw.Nx Gw.Ops
theorem QH(a b:List Int):CU (a++b)=CU a++CU b:=by unfold CU;rw [vX]
theorem qI{c:Chg}(h:c.ok)(hh:c.had=true):∀n∈[c.o.a,c.o.b,c.o.c],-4611686018427387903≤n∧n≤4611686018427387903:=fun n hn=>(Na h).2.1 n (by
 unfold vs2;split
 · rw [SC hh];exact u6 _ hn
 · rw [SC hh];exact hn)
theorem qJ{c:Chg}(h:c.ok)(hh:c.has=true):∀n∈[c.n.a,c.n.b,c.n.c],-4611686018427387903≤n∧n≤4611686018427387903:=fun n hn=>(Na h).2.1 n (by rw [SB hh];exact tZ _ hn)
set_option maxHeartbeats 1000000 in
theorem bK(p:Int)(q:Option Addr)(cap:Nat)(cs:List Chg)(M:List AR)(hO:Dh M (.slice q cs.length cap) cs)(hok:ES p cs):Av Tryz.prog 135 #[.agg #[I4 p,.slice q cs.length cap]] [M] (.tuple #[.string (str (KN p cs)),I4 0]):=by
 have hml:=mL;obtain ⟨p9,cap9,e9,hol,hg⟩:=id hO;injection e9 with e91 e92 e93
 subst e91 e93;have hnum:=NR hok
 have hlen:=hok.len;refine Se func135 ntmps135 [0] ?_;intro u R;refine Zq<|Zg<|Ze (Bx #[_,_]) ?_;rintro _ _ ⟨b1,rfl,rfl⟩;refine Za Y<|Za Y<|Z0<|Zx<|Zq<|Zq<|Zg<|Zo Wh (Pa #[_,_] isAgg73 sizeOf73 Y) ?_;refine Xr [_] Y call109 Y rfl (O4 p q cap cs M hO) ?_;rw [decide_eq_true hok];refine Zv (Ca Y)<|Z0<|Zx ?_;refine Af Y (fun hv=>?_) (fun hv=>?_)
 ·
  cases hv
 refine AC<|Zx<|Zq<|Zg<|Zh 0 underlying73 rfl rfl sizeOf3 Y<|Zl isAgg3 Y ?_;refine Zh 1 underlying73 rfl rfl sizeOf71 Y<|Zl isAgg71 Y ?_;refine Zv (AV underlying71 Y)<|Ze (Ae (vs:=[_,_]) (cs:=[_,_]) underlying210 sizeOf3 zeroValue3 Y rfl rfl rfl rfl rfl) ?_;rintro _ _ ⟨gb,rfl,rfl⟩;refine Xr [_] Y call218 Y rfl (QE gb 0 2 _ _ _ [p,(cs.length:Int)] (Jn [p,(cs.length:Int)]) (by simp) hnum) ?_;refine Za Y<|Z0<|Zn [1,4] ?_;refine Zx<|Zq<|Zq<|Zg<|Za Y<|Z0<|Zx<|AQ<|Zb [4,5,1] ?_;refine Az (e0:=[(4,_),(5,_)]) (fun m e H=>∃(i:Nat),m=cs.length -i∧(i≤cs.length)∧e=[(4,.string (str ((CU [p,(cs.length:Int)]++(cs.take i).flatMap Mc)))),(5,I4 (i:Int))]∧H=[]) (by exact ⟨0,rfl,tX _,by rw [ut,z8,uR];rfl,rfl⟩) Wp ?_;rintro _ _ _ ⟨i,rfl,hi,rfl,rfl⟩;refine Zq<|Zq<|Zg<|Zm Y<|Zh 1 underlying73 rfl rfl sizeOf71 Y<|Zl isAgg71 Y ?_;refine Zv (AV underlying71 Y)<|Zv (Aq Y Y)<|Z0<|Zx ?_;refine Ao Y (fun hlt=>?_) (fun hlt=>?_)
 ·
  obtain ⟨x,hx⟩:∃x,cs[i]?=some x:=⟨_,tF hlt⟩;obtain ⟨g,off,cur,T,zz,rfl,hm,hsz,hex⟩:=hg i x hx;have hxo:=hok.all i x hx
  obtain ⟨hn1,hn2,hn3,hn4⟩:=Na hxo;have hpl1:=Cv _ hn1
  have hpl2:=Cv _ hn2;have hto:=Te hok i
  have hf1:=YR x;have hv12:(CU (vs1 x)).length≤(CU (vs2 x)).length:=by unfold vs2;split;rw [QH,tK];omega;omega
  have hl3:[x.t,x.k,fl2 x].length=3:=rfl;refine AC<|Zx<|Zq<|AQ<|Zq<|Zg<|Zh 1 underlying73 rfl rfl sizeOf71 Y<|Zl isAgg71 Y ?_;refine Zm Y ?_;refine BM (AU underlying71 sizeOf77 Y Y (by first|omega|decide|(simp;done))) ?_;refine Cf (cs:=[(g,.cells cur T zz)]) (by simp [hm]) (AX (cs:=#[I4 x.t,I4 x.k,.bool x.had,I4 x.o.a,I4 x.o.b,I4 x.o.c,.bool x.has,I4 x.n.a,I4 x.n.b,I4 x.n.c]) isAgg77 sizeOf77 Y (by omega) hex) rfl rfl ?_;refine Ze (Al zeroValue77 #[_,_,_,_,_,_,_,_,_,_]) ?_;rintro _ _ ⟨cb,rfl,rfl⟩;refine Xe (Xw sizeOf77 #[I4 x.t,I4 x.k,.bool x.had,I4 x.o.a,I4 x.o.b,I4 x.o.c,.bool x.has,I4 x.n.a,I4 x.n.b,I4 x.n.c]) ?_;refine Z0<|Zx<|Zq<|Zg<|Za Y<|Z0<|Zn [1,4,5,6,7] ?_;refine Zx<|Zb [7,1,4,5,6] ?_;refine CW (e0:=[(7,_)]) (H0:=[]) (fun e H=>(True)∧e=[(7,I4 (fl1 x))]∧H=[]) Wp ?hx_2 ?hy_2
  case hx_2=>
   refine Zq<|Zg<|Zh 2 underlying77 rfl rfl sizeOf4 Y<|Zl isAgg4 Y ?_;refine Z0<|Zx ?_;refine Af Y (fun hh1=>?_) (fun hh1=>?_)
   ·
    refine Zg<|Za Y<|Z0<|Zn [7,1,4,5,6] ?_;refine BB (e':=[(7,_)]) (by exact ⟨trivial,by first|rw [jy hh1]|rw [kC hh1],rfl⟩)
   refine AC<|Zn [7,1,4,5,6] ?_;refine BB (e':=[(7,_)]) (by exact ⟨trivial,by first|rw [jy hh1]|rw [kC hh1],rfl⟩)
  rintro _ _ ⟨_,rfl,rfl⟩;refine Zb [7,1,4,5,6] ?_;refine CW (e0:=[(7,_)]) (H0:=[]) (fun e H=>(True)∧e=[(7,I4 (fl2 x))]∧H=[]) Wp ?hx_5 ?hy_5
  case hx_5=>
   refine Zq<|Zg<|Zh 6 underlying77 rfl rfl sizeOf4 Y<|Zl isAgg4 Y ?_;refine Z0<|Zx ?_;refine Af Y (fun hh2=>?_) (fun hh2=>?_)
   ·
    refine Zg<|Zm Y<|Yi Y Y<|Za Y<|Z0<|Zn [7,1,4,5,6] ?_;refine BB (e':=[(7,_)]) (by exact ⟨trivial,by first|rw [jv hh2]|rw [jw hh2],rfl⟩)
   refine AC<|Zn [7,1,4,5,6] ?_;refine BB (e':=[(7,_)]) (by exact ⟨trivial,by first|rw [jv hh2]|rw [jw hh2],rfl⟩)
  rintro _ _ ⟨_,rfl,rfl⟩;refine Zb [4,7,1,5,6] ?_;refine CW (e0:=[(4,_),(7,_)]) (H0:=[]) (fun e H=>(True)∧e=[(4,.string (str ((CU [p,(cs.length:Int)]++(cs.take i).flatMap Mc)++CU [x.t,x.k,fl2 x])))]∧H=[]) Wp ?hx_8 ?hy_8
  case hx_8=>
   refine Zg<|Zm Y<|Zh 0 underlying77 rfl rfl sizeOf3 Y<|Zl isAgg3 Y ?_;refine Zh 1 underlying77 rfl rfl sizeOf3 Y<|Zl isAgg3 Y ?_;refine Zm Y<|Ze (Ae (vs:=[_,_,_]) (cs:=[_,_,_]) underlying210 sizeOf3 zeroValue3 Y rfl rfl rfl rfl rfl) ?_;rintro _ _ ⟨gp,rfl,rfl⟩;refine Xr [_] Y call218 Y rfl (QE gp 0 3 _ _ _ [x.t,x.k,fl2 x] (Jn [x.t,x.k,fl2 x]) (by simp) hn1) ?_;refine BM (Dc Y Y (by rw [Ba,Ba];omega)) ?_;refine Za Y<|Z0<|Zn [4,1,5,6] ?_;refine BB (e':=[(4,_)]) (by exact ⟨trivial,by rw [E8],rfl⟩)
  rintro _ _ ⟨_,rfl,rfl⟩;have hla:((CU [p,(cs.length:Int)]++(cs.take i).flatMap Mc)++CU [x.t,x.k,fl2 x]).length=_:=tK
  refine Zb [4,1,5,6] ?_;refine CW (e0:=[(4,_)]) (H0:=[]) (fun e H=>(True)∧e=[(4,.string (str ((CU [p,(cs.length:Int)]++(cs.take i).flatMap Mc)++CU [x.t,x.k,fl2 x]++CU (vs1 x))))]∧H=[]) Wp ?hx_10 ?hy_10
  case hx_10=>
   refine Zq<|Zg<|Zh 2 underlying77 rfl rfl sizeOf4 Y<|Zl isAgg4 Y ?_;refine Z0<|Zx ?_;refine Af Y (fun hh1=>?_) (fun hh1=>?_)
   ·
    refine Zg<|Zm Y<|Zh 3 underlying77 rfl rfl sizeOf75 Y ?_;refine BM (CR (j:=0) underlying75 sizeOf3 Y Y (by first|omega|decide|(simp;done))) ?_;refine Zl isAgg3 Y ?_;refine Zh 3 underlying77 rfl rfl sizeOf75 Y ?_;refine BM (CR (j:=1) underlying75 sizeOf3 Y Y (by first|omega|decide|(simp;done))) ?_;refine Zl isAgg3 Y ?_;refine Zh 3 underlying77 rfl rfl sizeOf75 Y ?_;refine BM (CR (j:=2) underlying75 sizeOf3 Y Y (by first|omega|decide|(simp;done))) ?_;refine Zl isAgg3 Y ?_;refine Ze (Ae (vs:=[_,_,_]) (cs:=[_,_,_]) underlying210 sizeOf3 zeroValue3 Y rfl rfl rfl rfl rfl) ?_;rintro _ _ ⟨gq,rfl,rfl⟩;refine Xr [_] Y call218 Y rfl (QE gq 0 3 _ _ _ [x.o.a,x.o.b,x.o.c] (Jn [x.o.a,x.o.b,x.o.c]) (by simp) (qI hxo hh1)) ?_;refine BM (Dc Y Y (by(have h9:=Cv _ (qI hxo hh1);simp only [tY,vG]at h9;rw [Ba,Ba];omega))) ?_;refine Za Y<|Z0<|Zn [4,1,5,6] ?_;refine BB (e':=[(4,_)]) (by exact ⟨trivial,by(rw [SC hh1,E8];done),rfl⟩)
   refine AC<|Zn [4,1,5,6] ?_;refine BB (e':=[(4,_)]) (by exact ⟨trivial,by(rw [fZ hh1];simp [CU];done),rfl⟩)
  rintro _ _ ⟨_,rfl,rfl⟩;have hlb:((CU [p,(cs.length:Int)]++(cs.take i).flatMap Mc)++CU [x.t,x.k,fl2 x]++CU (vs1 x)).length=_:=tK
  refine Zq<|Zg<|Zh 6 underlying77 rfl rfl sizeOf4 Y<|Zl isAgg4 Y ?_;refine Z0<|Zx ?_;refine Af Y (fun hh2=>?_) (fun hh2=>?_)
  ·
   refine Zg<|Zm Y<|Zh 7 underlying77 rfl rfl sizeOf75 Y ?_;refine BM (CR (j:=0) underlying75 sizeOf3 Y Y (by first|omega|decide|(simp;done))) ?_;refine Zl isAgg3 Y ?_;refine Zh 7 underlying77 rfl rfl sizeOf75 Y ?_;refine BM (CR (j:=1) underlying75 sizeOf3 Y Y (by first|omega|decide|(simp;done))) ?_;refine Zl isAgg3 Y ?_;refine Zh 7 underlying77 rfl rfl sizeOf75 Y ?_;refine BM (CR (j:=2) underlying75 sizeOf3 Y Y (by first|omega|decide|(simp;done))) ?_;refine Zl isAgg3 Y ?_;refine Ze (Ae (vs:=[_,_,_]) (cs:=[_,_,_]) underlying210 sizeOf3 zeroValue3 Y rfl rfl rfl rfl rfl) ?_;rintro _ _ ⟨gr,rfl,rfl⟩;refine Xr [_] Y call218 Y rfl (QE gr 0 3 _ _ _ [x.n.a,x.n.b,x.n.c] (Jn [x.n.a,x.n.b,x.n.c]) (by simp) (qJ hxo hh2)) ?_;refine BM (Dc Y Y (by(have h9:=Cv _ (qJ hxo hh2);simp only [tY,vG]at h9;rw [Ba,Ba];omega))) ?_;refine Za Y<|Z0<|Zn [1,4,5] ?_;refine A8<|Zx<|Zg<|Zm Y<|Ya (n:=1) Y Y<|Za Y<|Z0<|Zn [4,5,1] ?_;refine Ab (e':=[(4,_),(5,_)]) (by exact ⟨i+1,rfl,by omega,by rw [R5 _ hx,SB hh2,QH,E8];simp only [tO],rfl⟩)
  refine AC<|A8<|Zx<|Zg<|Zm Y<|Ya (n:=1) Y Y<|Za Y<|Z0<|Zn [4,5,1] ?_;refine Ab (e':=[(4,_),(5,_)]) (by exact ⟨i+1,rfl,by omega,by rw [R5 _ hx,V6 hh2];simp only [tO],rfl⟩)
 refine Ar<|Zt<|Zt<|AO<|Zx<|Zq<|Zg<|Zm Y<|Za Y<|Za Y<|Z0<|Zx<|A9 ?_;refine Da rfl results135 Y Y (by exact ⟨by rw [uN (by omega)];rfl,rfl⟩)
theorem iL(h:Cm)(hh:h.ok):Av Tryz.prog 134 #[.agg #[I4 h.p,.string (str h.ch),.string (str h.st)]] [] (.bool true):=by
 obtain ⟨⟨h1,h2⟩,h3,h4⟩:=hh;refine Se func134 ntmps134 [0] ?_;intro u R;refine Zq<|Zg<|Ze (Bx #[_,_,_]) ?_;rintro _ _ ⟨b1,rfl,rfl⟩;refine Za Y<|Z0<|Zx<|Zq<|Zg<|Zh 0 underlying67 rfl rfl sizeOf3 Y<|Zl isAgg3 Y ?_;refine Zv (GZ Y Y)<|Zm Y ?_;refine Aj (t:=6) Y rfl (fun g1=>?_) (fun g1=>?_)
 ·
  refine Yf 0 underlying67 rfl rfl sizeOf3 Y<|Yl isAgg3 Y ?_;refine Yg (Kn Y Y)<|Zv (AL Y Y)<|Zm Y ?_;refine Aj (t:=11) Y rfl (fun g2=>?_) (fun g2=>?_)
  ·
   refine Yf 1 underlying67 rfl rfl sizeOf9 Y<|Yl isAgg9 Y ?_;refine Yg (EN underlying9 Y)<|Yg (C8 (n:=32) Y Y)<|Zv (AL Y Y)<|Zm Y ?_;refine Aj (t:=17) Y rfl (fun g3=>?_) (fun g3=>?_)
   ·
    refine Yf 2 underlying67 rfl rfl sizeOf9 Y<|Yl isAgg9 Y ?_;refine Yg (EN underlying9 Y)<|Yg (C8 (n:=32) Y Y)<|Zv (AL Y Y)<|Za Y<|Z0<|Zn [2] ?_;refine Zx<|A9 ?_;refine AB rfl results134 Y (by exact ⟨congrArg Value.bool (decide_eq_true (by rw [Ba];omega)),rfl⟩)
   exfalso;first|omega|(rw [Ba]at g3;omega)
  exfalso;first|omega|(rw [Ba]at g2;omega)
 exfalso;first|omega|(rw [Ba]at g1;omega)
theorem lw(h:Cm)(r:Br)(st:List UInt8){M:List AR}(hO:Dh M (.slice r.q r.cs.length r.cap) r.cs)(hn:FN h r st):Av Tryz.prog 67 #[.agg #[I4 h.p,.string (str h.ch),.string (str h.st)],.agg #[I4 r.p,.slice r.q r.cs.length r.cap],.string (str st)] [M] (.tuple #[.agg #[I4 (GD h r st).p,.string (str (GD h r st).ch),.string (str (GD h r st).st)],I4 0]):=by
 have hml:=mL;obtain ⟨hok,hh,hst,hp⟩:=id hn;have h21:=hh.1
 have h22:=hh.2.1;have hel:=R7 hok
 have hlen:=hok.len;refine Se func67 ntmps67 [0,1,2] ?_;intro u R;refine Zq<|Zg<|Ze (Bx #[_,_,_]) ?_;rintro _ _ ⟨b1,rfl,rfl⟩;refine Ze (Bx #[_,_]) ?_;rintro _ _ ⟨b2,rfl,rfl⟩;refine Ze (Al zeroValue67 #[_,_,_]) ?_;rintro _ _ ⟨b3,rfl,rfl⟩;refine Za Y<|Z0<|Zx<|Zq<|Zq<|Zg<|Zo Wh (AX (cs:=#[_,_,_]) isAgg67 sizeOf67 Y Wb (by exact Au rfl)) ?_;refine Xr [_] Y call134 Y rfl (iL h hh) ?_;refine Zv (Ca Y)<|Zm Y ?_;refine Ai (t:=13) Y rfl (fun g1=>?_) (fun g1=>?_)
 ·
  cases g1
 refine DL Y Wh (AX (cs:=#[_,_]) isAgg73 sizeOf73 Y Wb (by exact Au rfl)) rfl rfl ?_;refine Xr [_] Y call109 Y rfl (O4 r.p r.q r.cap r.cs M hO) ?_;rw [decide_eq_true hok];refine Yg (Ca Y)<|Zv (AA Y Y)<|Zm Y ?_;refine Ai (t:=18) Y rfl (fun g2=>?_) (fun g2=>?_)
 ·
  cases g2
 refine Yf 0 underlying73 rfl rfl sizeOf3 Y<|Yl isAgg3 Y ?_;refine Yf 0 underlying67 rfl rfl sizeOf3 Y<|Yl isAgg3 Y ?_
 (refine FX Y (JI Y Y (IntWalk.i64_in _ ?_)) rfl rfl ?_;(focus (omega)))
 refine Yg (IL Y Y)<|Zv (AA Y Y)<|Zm Y ?_;refine Aj (t:=26) Y rfl (fun g3=>?_) (fun g3=>?_)
 ·
  exfalso;omega
 refine Zf Y Y<|Yg (EN underlying9 Y)<|Yg (Dw (n:=32) Y Y)<|Zv (AA Y Y)<|Z0<|Zn [2,3,4,6,30] ?_;refine Zx ?_;refine Ao Y (fun g4=>?_) (fun g4=>?_)
 ·
  exfalso;rw [Ba]at g4;omega
 refine AC<|Zx<|Zq<|Zg<|Zo Wh (AX (cs:=#[_,_]) isAgg73 sizeOf73 Y Wb (by exact Au rfl)) ?_;refine Xr [_] Y call135 Y rfl (bK r.p r.q r.cap r.cs M hO hok) ?_;refine Zm Y<|Zd Y rfl<|Zd Y rfl<|Za Y<|Za Y<|Z0<|Zx<|Zq<|BI (n:=10) (0::1::0::4::0::28::0::127::255::511::[]) 288 (by kernel_rfl) (by kernel_rfl) rfl ?_;refine Zi 1 0 rfl (AZ (off:=0) underlying73 rfl rfl sizeOf3 Y)<|Zj 3 1 rfl isAgg3 Y ?_;refine Zi 7 2 rfl (AZ (off:=1) underlying67 rfl rfl sizeOf9 Y)<|Zj 15 3 rfl isAgg9 Y ?_;refine Zi 31 4 rfl (AJ Y)<|Zi 95 6 rfl (AJ Y)<|Zz (l:=[5]) ?_;refine Zy 28 127 [3,1] [false,true] [(1,(_,_))] rfl Y rfl rfl rfl rfl (Zu [_,_] Y call136 Y rfl (Va h.ch (KN r.p r.cs) (by omega))) ?hk_1 (fun _ _ h=>h.elim) ?hl_1
 case hk_1=>
  rintro _ _ ⟨rfl,rfl⟩;refine ⟨Zk (Ad),?_⟩;refine Zi 255 7 rfl (BK (vs:=[(0,_),(1,_),(2,_)]) (cs:=#[_,_,_]) Y (Aa (pl:=#[(0,1),(1,1),(2,1)]) zeroValue67 underlying67 (fun _=>by kernel_rfl) rfl)) ?_;refine Yw 8 511 rfl (BN sizeOf67 Y Y (by(simp [Value.oneCell',Value.cells];done)) Wu (by exact DU rfl) (by first|rfl|(simp;done)) Wb (by exact BQ _)) ?_;rintro _ _ ⟨rfl,rfl⟩;refine Zi 1023 9 rfl (Ay Y)<|Am ?_;refine Zn [6,7] ?_;refine Zx<|A9 ?_;refine Bb rfl results67 Y Wh (Ah isAgg67 sizeOf67 Wn (Au rfl)) Y (by exact ⟨rfl,rfl⟩)
 exact Aw
def EG(l:List Br):Nat→Cm
 |0=>⟨0,Ct,DZ []⟩
 |i+1=>match l[i]?with
  |some r=>GD (EG l i) r (DZ (Bh (l.take (i+1))))
  |none=>EG l i
def Kw(l:List Br)(n:Nat):List Cm:=(List.range n).map (EG l)
theorem WP(l:List Br)(n:Nat):Kw l (n+1)=Kw l n++[EG l n]:=by unfold Kw;rw [yU,uK];rfl
theorem KF{l:List Br}{i:Nat}{r:Br}(hr:l[i]?=some r):EG l (i+1)=GD (EG l i) r (DZ (Bh (l.take (i+1)))):=by
 rw [EG,hr]
theorem O1(rs:List AP):(DZ rs).length=32:=Ei _
theorem Ow(h r:Bs):(Me h r).length=32:=LU _
theorem J2{l:List Br}(hl:DW l)(h9:l.length≤9000):∀i,i≤l.length→(EG l i).ok∧(EG l i).p=(i:Int)∧(EG l i).st=DZ (Bh (l.take i))
 |0,_=>⟨⟨⟨by show(0:Int)≤0;decide,by show(0:Int)≤10000;decide⟩,List.length_replicate,O1 _⟩,rfl,by rw [ut];rfl⟩
 |i+1,hi=>by
  obtain ⟨r,hr⟩:∃r,l[i]?=some r:=⟨_,tF (by omega)⟩;have hp:r.p=(i:Int)+1:=(hl i r hr).1.pos
  rw [KF hr];exact ⟨⟨⟨by show 0≤r.p;omega,by show r.p≤10000;omega⟩,Ow _ _,O1 _⟩,by show r.p=_;rw [hp];rfl,rfl⟩
theorem jF{l:List Br}(hl:DW l)(h9:l.length≤9000){i:Nat}{r:Br}(hr:l[i]?=some r){st:Bs}(hst:st.length=32):FN (EG l i) r st:=by
 have hi:=(tH.1 hr).1;obtain ⟨h1,h2,_⟩:=J2 hl h9 i (by omega);have ha:=(hl i r hr).1
 exact ⟨ha.ok,h1,hst,by rw [h2];exact ha.pos⟩
set_option maxHeartbeats 2000000 in
theorem Sk{M:List AR}{lv:Value}{l:List Br}(hl:Du M lv l)(hlog:DW l)(hll:l.length≤9000):CO Tryz.prog 22 #[lv] [M] (fun w H'=>∃sh,BX 3 67 w (l.length+1) (Gn (Kw l (l.length+1))) sh∧H'=[sh,M]):=by
 have hml:=mL;obtain ⟨pl,cl,rfl,⟨hl1,hlc⟩,hg⟩:=id hl;refine Se func22 ntmps22 [0] ?_;intro u R;refine Zq<|Zg<|Za Y<|Z0<|Zx<|Zq<|Zg<|Zc [] Y call47 Y rfl (iN) ?_;rintro _ _ ⟨_,⟨sp,rfl,rfl⟩,rfl⟩;refine Za Y<|Z0<|Zx<|Bd ?_;refine Zb [0,3] ?_;refine CW (e0:=[]) (H0:=[[(sp,.cells #[.slice none 0 0,I4 0] 182 (0,0))],[]]) (fun e H=>∃(bh:Nat),(True)∧e=[(4,I5 bh)]∧H=[[(sp,.cells #[.slice none 0 0,I4 0] 182 (0,0))],[],[(bh,.cells #[I4 (⟨0,Ct,DZ []⟩:Cm).p,.string (str (⟨0,Ct,DZ []⟩:Cm).ch),.string (str (⟨0,Ct,DZ []⟩:Cm).st)] 67 (0,0))]]) Wp ?hx_1 ?hy_1
 case hx_1=>
  refine BI (n:=7) (0::1::0::4::15::0::63::[]) 105 (by kernel_rfl) (by kernel_rfl) rfl ?_;refine Zi 4 2 rfl (AJ Y)<|Zz (l:=[0,3,5]) ?_;refine Zy 0 5 [] [] [] rfl Y rfl rfl rfl rfl (Fv (by_:=1) (l:=32) (c:=32) underlying124 (rfl:Tryz.prog.info? 5=some Tryz.t5) rfl rfl rfl rfl Y Y ?_ ?_ ?_) ?hk_2 (fun _ _ h=>h.elim) ?hl_2
  (focus (decide))
  (focus (decide))
  (focus (decide))
  case hk_2=>
   rintro _ _ ⟨mk,rfl,rfl⟩;refine ⟨Ad,?_⟩;refine Cj (D':=7) 1 rfl rfl rfl Wh (D5 underlying124 underlying5 underlying9 Y (by exact (show(_=List.map u8v Ct)∧Ct.length=_ from⟨rfl,rfl⟩))) ?_;refine Zz (l:=[3,5]) ?_;refine Zy 4 15 [1] [true] [(1,(_,_))] rfl Y rfl rfl rfl rfl (Zu [_] Y call66 Y rfl (Jd sp 0 (.slice none 0 0) [] [] (BV 5 _) (by decide) .nil (by simp))) ?hk_3 (fun _ _ h=>h.elim) ?hl_3
   case hk_3=>
    rintro _ _ ⟨rfl,rfl⟩;refine ⟨Zk (Ad),?_⟩;refine Zi 31 4 rfl (BK (vs:=[(1,.string (str Ct)),(2,.string (str (DZ [])))]) (cs:=#[I4 0,.string (str Ct),.string (str (DZ []))]) Y (Aa (pl:=#[(0,1),(1,1),(2,1)]) zeroValue67 underlying67 (fun _=>by kernel_rfl) (by kernel_rfl))) ?_;refine Yz 5 0 63 [1] [true] [(1,(_,_))] rfl Y rfl rfl rfl rfl (Al zeroValue67 #[_,_,_]) ?_;rintro _ _ ⟨bh,rfl,rfl⟩;refine ⟨Zk (Ad),?_⟩;refine Yw 6 127 rfl (Xw sizeOf67 #[I4 0,.string (str Ct),.string (str (DZ []))]) ?_;rintro _ _ ⟨rfl,rfl⟩;refine Am ?_;refine Zn [4,0,3] ?_;refine BB (e':=[(4,_)]) (by exact ⟨bh,trivial,rfl,rfl⟩)
   refine Zy 0 39 [1] [true] [(1,(_,_))] rfl Y rfl rfl rfl rfl (Al zeroValue67 #[_,_,_]) ?hk_7 (fun _ _ h=>h.elim) ?hl_7
   case hk_7=>
    rintro _ _ ⟨bh,rfl,rfl⟩;refine ⟨Zk (Ad),?_⟩;refine Yz 3 4 47 [1] [true] [(1,(_,_))] rfl Y rfl rfl rfl rfl (Zu [_] Y call66 Y rfl (Jd sp 0 (.slice none 0 0) [] [] (BV 5 _) (by decide) .nil (by simp))) ?_;rintro _ _ ⟨rfl,rfl⟩;refine ⟨Zk (Ad),?_⟩;refine Zi 63 4 rfl (BK (vs:=[(1,.string (str Ct)),(2,.string (str (DZ [])))]) (cs:=#[I4 0,.string (str Ct),.string (str (DZ []))]) Y (Aa (pl:=#[(0,1),(1,1),(2,1)]) zeroValue67 underlying67 (fun _=>by kernel_rfl) (by kernel_rfl))) ?_;refine Yw 6 127 rfl (Xw sizeOf67 #[I4 0,.string (str Ct),.string (str (DZ []))]) ?_;rintro _ _ ⟨rfl,rfl⟩;refine Am ?_;refine Zn [4,0,3] ?_;refine BB (e':=[(4,_)]) (by exact ⟨bh,trivial,rfl,rfl⟩)
   exact Aw
  refine Zy 4 12 [] [] [] rfl Y rfl rfl rfl rfl (Zu [_] Y call66 Y rfl (Jd sp 0 (.slice none 0 0) [] [] (BV 5 _) (by decide) .nil (by simp))) ?hk_11 (fun _ _ h=>h.elim) ?hl_11
  case hk_11=>
   rintro _ _ ⟨rfl,rfl⟩;refine ⟨Ad,?_⟩;refine Zz (l:=[0,5]) ?_;refine Zy 0 13 [] [] [] rfl Y rfl rfl rfl rfl (Fv (by_:=1) (l:=32) (c:=32) underlying124 (rfl:Tryz.prog.info? 5=some Tryz.t5) rfl rfl rfl rfl Y Y ?_ ?_ ?_) ?hk_12 (fun _ _ h=>h.elim) ?hl_12
   (focus (decide))
   (focus (decide))
   (focus (decide))
   case hk_12=>
    rintro _ _ ⟨mk,rfl,rfl⟩;refine ⟨Ad,?_⟩;refine Cj (D':=15) 1 rfl rfl rfl Wh (D5 underlying124 underlying5 underlying9 Y (by exact (show(_=List.map u8v Ct)∧Ct.length=_ from⟨rfl,rfl⟩))) ?_;refine Zi 31 4 rfl (BK (vs:=[(1,.string (str Ct)),(2,.string (str (DZ [])))]) (cs:=#[I4 0,.string (str Ct),.string (str (DZ []))]) Y (Aa (pl:=#[(0,1),(1,1),(2,1)]) zeroValue67 underlying67 (fun _=>by kernel_rfl) (by kernel_rfl))) ?_;refine Yz 5 0 63 [1] [true] [(1,(_,_))] rfl Y rfl rfl rfl rfl (Al zeroValue67 #[_,_,_]) ?_;rintro _ _ ⟨bh,rfl,rfl⟩;refine ⟨Zk (Ad),?_⟩;refine Yw 6 127 rfl (Xw sizeOf67 #[I4 0,.string (str Ct),.string (str (DZ []))]) ?_;rintro _ _ ⟨rfl,rfl⟩;refine Am ?_;refine Zn [4,0,3] ?_;refine BB (e':=[(4,_)]) (by exact ⟨bh,trivial,rfl,rfl⟩)
   refine Zy 0 44 [] [] [] rfl Y rfl rfl rfl rfl (Al zeroValue67 #[_,_,_]) ?hk_16 (fun _ _ h=>h.elim) ?hl_16
   case hk_16=>
    rintro _ _ ⟨bh,rfl,rfl⟩;refine ⟨Ad,?_⟩;refine Zz (l:=[0]) ?_;refine Zy 0 45 [] [] [] rfl Y rfl rfl rfl rfl (Fv (by_:=1) (l:=32) (c:=32) underlying124 (rfl:Tryz.prog.info? 5=some Tryz.t5) rfl rfl rfl rfl Y Y ?_ ?_ ?_) ?hk_17 (fun _ _ h=>h.elim) ?hl_17
    (focus (decide))
    (focus (decide))
    (focus (decide))
    case hk_17=>
     rintro _ _ ⟨mk,rfl,rfl⟩;refine ⟨Ad,?_⟩;refine Cj (D':=47) 1 rfl rfl rfl Wh (D5 underlying124 underlying5 underlying9 Y (by exact (show(_=List.map u8v Ct)∧Ct.length=_ from⟨rfl,rfl⟩))) ?_;refine Zi 63 4 rfl (BK (vs:=[(1,.string (str Ct)),(2,.string (str (DZ [])))]) (cs:=#[I4 0,.string (str Ct),.string (str (DZ []))]) Y (Aa (pl:=#[(0,1),(1,1),(2,1)]) zeroValue67 underlying67 (fun _=>by kernel_rfl) (by kernel_rfl))) ?_;refine Yw 6 127 rfl (Xw sizeOf67 #[I4 0,.string (str Ct),.string (str (DZ []))]) ?_;rintro _ _ ⟨rfl,rfl⟩;refine Am ?_;refine Zn [4,0,3] ?_;refine BB (e':=[(4,_)]) (by exact ⟨bh,trivial,rfl,rfl⟩)
    exact Aw
   exact Aw
  refine Zy 0 36 [] [] [] rfl Y rfl rfl rfl rfl (Al zeroValue67 #[_,_,_]) ?hk_20 (fun _ _ h=>h.elim) ?hl_20
  case hk_20=>
   rintro _ _ ⟨bh,rfl,rfl⟩;refine ⟨Ad,?_⟩;refine Zz (l:=[0,3]) ?_;refine Zy 0 37 [] [] [] rfl Y rfl rfl rfl rfl (Fv (by_:=1) (l:=32) (c:=32) underlying124 (rfl:Tryz.prog.info? 5=some Tryz.t5) rfl rfl rfl rfl Y Y ?_ ?_ ?_) ?hk_21 (fun _ _ h=>h.elim) ?hl_21
   (focus (decide))
   (focus (decide))
   (focus (decide))
   case hk_21=>
    rintro _ _ ⟨mk,rfl,rfl⟩;refine ⟨Ad,?_⟩;refine Cj (D':=39) 1 rfl rfl rfl Wh (D5 underlying124 underlying5 underlying9 Y (by exact (show(_=List.map u8v Ct)∧Ct.length=_ from⟨rfl,rfl⟩))) ?_;refine Yz 3 4 47 [1] [true] [(1,(_,_))] rfl Y rfl rfl rfl rfl (Zu [_] Y call66 Y rfl (Jd sp 0 (.slice none 0 0) [] [] (BV 5 _) (by decide) .nil (by simp))) ?_;rintro _ _ ⟨rfl,rfl⟩;refine ⟨Zk (Ad),?_⟩;refine Zi 63 4 rfl (BK (vs:=[(1,.string (str Ct)),(2,.string (str (DZ [])))]) (cs:=#[I4 0,.string (str Ct),.string (str (DZ []))]) Y (Aa (pl:=#[(0,1),(1,1),(2,1)]) zeroValue67 underlying67 (fun _=>by kernel_rfl) (by kernel_rfl))) ?_;refine Yw 6 127 rfl (Xw sizeOf67 #[I4 0,.string (str Ct),.string (str (DZ []))]) ?_;rintro _ _ ⟨rfl,rfl⟩;refine Am ?_;refine Zn [4,0,3] ?_;refine BB (e':=[(4,_)]) (by exact ⟨bh,trivial,rfl,rfl⟩)
   refine Zy 4 44 [] [] [] rfl Y rfl rfl rfl rfl (Zu [_] Y call66 Y rfl (Jd sp 0 (.slice none 0 0) [] [] (BV 5 _) (by decide) .nil (by simp))) ?hk_25 (fun _ _ h=>h.elim) ?hl_25
   case hk_25=>
    rintro _ _ ⟨rfl,rfl⟩;refine ⟨Ad,?_⟩;refine Zz (l:=[0]) ?_;refine Zy 0 45 [] [] [] rfl Y rfl rfl rfl rfl (Fv (by_:=1) (l:=32) (c:=32) underlying124 (rfl:Tryz.prog.info? 5=some Tryz.t5) rfl rfl rfl rfl Y Y ?_ ?_ ?_) ?hk_26 (fun _ _ h=>h.elim) ?hl_26
    (focus (decide))
    (focus (decide))
    (focus (decide))
    case hk_26=>
     rintro _ _ ⟨mk,rfl,rfl⟩;refine ⟨Ad,?_⟩;refine Cj (D':=47) 1 rfl rfl rfl Wh (D5 underlying124 underlying5 underlying9 Y (by exact (show(_=List.map u8v Ct)∧Ct.length=_ from⟨rfl,rfl⟩))) ?_;refine Zi 63 4 rfl (BK (vs:=[(1,.string (str Ct)),(2,.string (str (DZ [])))]) (cs:=#[I4 0,.string (str Ct),.string (str (DZ []))]) Y (Aa (pl:=#[(0,1),(1,1),(2,1)]) zeroValue67 underlying67 (fun _=>by kernel_rfl) (by kernel_rfl))) ?_;refine Yw 6 127 rfl (Xw sizeOf67 #[I4 0,.string (str Ct),.string (str (DZ []))]) ?_;rintro _ _ ⟨rfl,rfl⟩;refine Am ?_;refine Zn [4,0,3] ?_;refine BB (e':=[(4,_)]) (by exact ⟨bh,trivial,rfl,rfl⟩)
    exact Aw
   exact Aw
  exact Aw
 rintro _ _ ⟨bh,_,rfl,rfl⟩;refine Zq<|Zg<|Zo Wh (AX (cs:=#[_,_,_]) isAgg67 sizeOf67 Y Wb (by exact Au rfl)) ?_;refine Ze (Ae (vs:=[_]) (cs:=[_,_,_]) underlying60 sizeOf67 zeroValue67 Y rfl rfl rfl rfl rfl) ?_;rintro _ _ ⟨go,rfl,rfl⟩;refine Za Y<|Z0<|Zx<|Zq<|Zq<|Zg<|Za Y<|Z0<|Zx<|AQ<|Zb [5,6,0,3,4] ?_;refine Az (e0:=[(5,_),(6,_)]) (fun m e H=>∃(i:Nat) (rs:List AP) (h:Cm) (w:Value) (sv:List AR) (go:Option Addr) (co:Nat) (so:List AR),m=l.length -i∧(i≤l.length∧rs=Bh (l.take i)∧h=EG l i∧BX 5 113 w rs.length (Ac rs) sv∧BX 3 67 (.slice go (i+1) co) (i+1) (Gn (Kw l (i+1))) so)∧e=[(5,.slice go (i+1) co),(6,I4 (i:Int))]∧H=[[(sp,.cells #[w,I4 (i:Int)] 182 (0,0))],sv,[(bh,.cells #[I4 h.p,.string (str h.ch),.string (str h.st)] 67 (0,0))],so]) (by exact ⟨0,[],⟨0,Ct,DZ []⟩,.slice none 0 0,[],some ⟨go,0,none⟩,1,_,rfl,⟨tX _,by rw [ut];rfl,rfl,BV 5 _,Iq 3 67 go 1 [I4 (⟨0,Ct,DZ []⟩:Cm).p,.string (str (⟨0,Ct,DZ []⟩:Cm).ch),.string (str (⟨0,Ct,DZ []⟩:Cm).st)] rfl (by decide)⟩,rfl,rfl⟩) Wp ?_;rintro _ _ _ ⟨i,rs,h,w,sv,go,co,so,rfl,⟨hi,hrs,hh,hrw,hso⟩,rfl,rfl⟩;refine Zq<|Zq<|Zg<|Zm Y<|Zm Y<|Zv (AV underlying28 Y)<|Zv (Aq Y Y)<|Z0<|Zx ?_;refine Ao Y (fun hlt=>?_) (fun hlt=>?_)
 ·
  obtain ⟨r,hr⟩:∃r,l[i]?=some r:=⟨_,tF (by omega)⟩;obtain ⟨hOr,g,off,cur,T,zz,rfl,hm9,hsz9,hex9⟩:=hg i r hr;obtain ⟨hA,_⟩:=hlog i r hr;have hrp:=hA.pos
  obtain ⟨hsr,hle⟩:=hlog.rows i (by omega);rw [←hrs]at hA hsr hle;obtain ⟨hs2,hn2⟩:=RG hsr hA;obtain ⟨rs2,hrs20⟩:∃rs2,rs2=DD rs r.cs:=⟨_,rfl⟩;have hrs2:rs2=Bh (l.take (i+1)):=by rw [Bo hr,FI,←hrs,hrs20]
  rw [←hrs20]at hs2 hn2;have hok2:∀x∈rs2,x.ok:=by rw [hrs2];exact hlog.rowsOk (i+1) (by omega)
  have hnx:FN h r (DZ rs2):=by rw [hh];exact jF hlog hll hr (O1 _)
  refine AC<|Zx<|Zq<|AQ<|Zq<|Zg<|Zm Y<|Zm Y<|Zm Y ?_;refine BM (AU underlying28 sizeOf73 Y Y (by first|omega|decide|(simp;done))) ?_;refine Cf (cs:=[(g,.cells cur T zz)]) (by simp [hm9]) (AX (cs:=#[I4 r.p,.slice r.q r.cs.length r.cap]) isAgg73 sizeOf73 Y (by omega) hex9) rfl rfl ?_;refine Zc [_,_] Y call48 Y rfl (Vf sp (i:Int) r.p w rs sv M r.q r.cap r.cs hrw hOr hsr hle (by omega) hA) ?_;rintro _ _ ⟨_,⟨rfl,v2,sv2,hrw2,rfl⟩,rfl⟩;rw [←hrs20]at hrw2;rw [show r.p=((i+1:Nat):Int) by rw [hrp];rfl];refine Z0<|Zx<|Zq<|BI (n:=12) (0::0::0::6::14::0::32::127::255::511::511::1023::[]) 2240 (by kernel_rfl) (by kernel_rfl) rfl ?_;refine Cj (D':=1) 0 rfl rfl rfl Wh (AX (cs:=#[_,_,_]) isAgg67 sizeOf67 Y Wb (by exact Au rfl)) ?_;refine Zi 3 1 rfl (AJ Y)<|Zi 7 2 rfl (AJ Y) ?_;refine Zi 15 3 rfl (AU underlying28 sizeOf73 Y Y (by first|omega|decide|(simp;done))) ?_;refine Fp (b:=g) (x:= .cells cur T zz) (D':=31) 4 rfl rfl rfl (by simp [hm9]) (AX (cs:=#[I4 r.p,.slice r.q r.cs.length r.cap]) isAgg73 sizeOf73 Y (by omega) hex9) ?_;refine Zi 63 5 rfl (AJ Y)<|Zz (l:=[6]) ?_;refine Zy 32 127 [4,0] [true,true] [(4,(_,_)),(0,(_,_))] rfl Y rfl rfl rfl rfl (Zu [_] Y call66 Y rfl (Jd sp _ v2 rs2 sv2 hrw2 hn2 hs2 hok2)) ?hk_30 (fun _ _ h=>h.elim) ?hl_30
  case hk_30=>
   rintro _ _ ⟨rfl,rfl⟩;refine ⟨KE (by simp [*]) (Zk (Ad)),?_⟩;refine Yw 7 255 rfl (Zu [_,_,_] Y call67 Y rfl (lw h r (DZ rs2) hOr hnx)) ?_;rintro _ _ ⟨rfl,rfl⟩;refine Zi 511 8 rfl (AJ Y)<|Zi 1023 9 rfl (Cc Y rfl)<|Zi 2047 10 rfl (Cc Y rfl)<|Zz (l:=[11]) ?_;refine Zy 1023 4095 [] [] [] rfl Y rfl rfl rfl rfl (BN sizeOf67 Y Y (by(simp [Value.oneCell'];done)) Wu (by exact DU rfl) (by first|rfl|(simp;done)) Wb (by exact BQ _)) ?hk_32 (fun _ _ h=>h.elim) ?hl_32
   case hk_32=>
    rintro _ _ ⟨rfl,rfl⟩;refine ⟨Ad,?_⟩;refine Am ?_;refine Zn [0,3,4,5,6] ?_;refine Zx<|Zg<|Zm Y<|Zo Wh (AX (cs:=#[_,_,_]) isAgg67 sizeOf67 Y Wb (by exact Au rfl)) ?_;refine Ze (Ae (vs:=[_]) (cs:=[_,_,_]) underlying60 sizeOf67 zeroValue67 Y rfl rfl rfl rfl rfl) ?_;rintro _ _ ⟨gb,rfl,rfl⟩;refine Ze (BR (by_:=40) (sz:=3) underlying60 (rfl:Tryz.prog.info? 67=some Tryz.t67) rfl rfl rfl rfl Y (hso) Y (DY 3 gb 1 1 67 (0,0) [I4 (GD h r (DZ rs2)).p,.string (str (GD h r (DZ rs2)).ch),.string (str (GD h r (DZ rs2)).st)] rfl) Wo Wo (by simp [Value.oneCell']) (by omega) (by omega)) ?_;rintro _ _ ⟨sw5,hrw5,rfl⟩;obtain ⟨gw5,cw5,rfl⟩:=hrw5.form;refine Za Y<|Z0<|A8<|Zx<|Zg<|Zm Y<|Ya (n:=1) Y Y<|Za Y<|Z0<|Zn [5,6,0,3,4] ?_;refine Ab (e':=[(5,_),(6,_)]) (by exact ⟨i+1,rs2,GD h r (DZ rs2),v2,sv2,gw5,cw5,sw5,rfl,⟨by omega,hrs2,by rw [KF hr,←hh,←hrs2],hrw2,BO hrw5 rfl (by rw [WP l (i+1),Rk,KF hr,←hh,←hrs2];rfl)⟩,rfl,rfl⟩)
   exact Aw
  exact Aw
 have ei:i=l.length:=by omega
 subst ei;refine Ar<|Zt<|Zt<|AO<|Zx<|Zq<|Zg<|Zm Y<|Za Y<|Z0<|Zx<|A9 ?_;refine AB rfl results22 Y (by exact ⟨so,hso,rfl⟩)
theorem H9{z:Int}(k:Int)(hk:1≤k)(h1:-9223372036854775808≤z)(h2:z≤9223372036854775807):-9223372036854775808≤z.tdiv k∧z.tdiv k≤9223372036854775807:=by
 have h:=Int.natAbs_tdiv_le_natAbs z k;rcases Int.lt_or_le z 0 with hz|hz
 · have:z.tdiv k≤0:=by
    obtain ⟨y,rfl⟩:∃y,z=-y:=⟨-z,by omega⟩;rw [Int.neg_tdiv];have:=Int.tdiv_nonneg (a:=y) (b:=k) (by omega) (by omega)
    omega
   omega
 · have:=Int.tdiv_nonneg hz (show(0:Int)≤k by omega)
   omega
theorem LM{kd tb cl lo hi bq ot:Int}(h:(0≤tb∧tb≤3)∧(0≤cl∧cl≤3)∧(-1000000000≤lo∧lo≤hi∧hi≤1000000000)∧
 ((kd=1∧cl=0∧lo=hi∧(1≤lo∧lo≤1000000)∧bq=0∧ot=0)∨((kd=2∨kd=3)∧bq=0∧ot=0)∨
  ((kd=4∨kd=5∨kd=6)∧(1≤bq∧bq≤3)∧ot=0)∨(kd=7∧(1≤bq∧bq≤3)∧(0≤ot∧ot≤3)))):BP ⟨kd,tb,cl,lo,hi,bq,ot⟩:=h
theorem kQ{g o c sz a:Nat}(h:a<c):ER (some ⟨g,o,none⟩) a c sz=some ⟨g,o+a*sz,none⟩:=by
 unfold ER;rw [if_neg (by omega),vV,CJ]
theorem NA{M:List AR}{p:Option Addr}{cap a b:Nat}{l:List Br}(h:Du M (.slice p l.length cap) l)(hab:a≤b)(hb:b≤l.length):Du M (.slice (ER p a cap 2) (b -a) (cap -a)) ((l.drop a).take (b -a)):=by
 obtain ⟨p',cap',e,⟨hl,hlc⟩,hg⟩:=h;injection e with e1 e2 e3
 subst e1 e3;have e4:((l.drop a).take (b -a)).length=b -a:=by rw [tL,tN];omega
 refine ⟨_,_,by rw [e4],⟨by omega,by omega⟩,fun i x hx=>?_⟩;rw [uX]at hx;split at hx
 · rw [uw]at hx
   obtain ⟨h1,g,off,cur,T,zz,rfl,hm,hsz,hex⟩:=hg (a+i) x hx;rw [kQ (by omega)];exact ⟨h1,g,_,cur,T,zz,rfl,hm,by omega,by rw [show off+a*2+i*2=off+(a+i)*2 by omega];exact hex⟩
 · cases hx
theorem iQ(rs:List AP)(c:Chg):(EI rs c).length≤rs.length+1:=by
 unfold EI MQ;simp only [tK,tL,tN];split<;>simp only [tT,vG]<;>omega
theorem QG:∀(cs:List Chg) (rs:List AP),(DD rs cs).length≤rs.length+cs.length
 |[],_=>tQ _
 |c::cs,rs=>by
  have h1:=QG cs (EI rs c);have h2:=iQ rs c
  rw [tY];exact xk h1 (by omega)
theorem DW.few{l:List Br}(h:DW l):∀i,i≤l.length→(Bh (l.take i)).length≤3*i
 |0,_=>by rw [ut];exact tQ _
 |i+1,hi=>by
  obtain ⟨r,hr⟩:∃r,l[i]?=some r:=⟨_,tF (by omega)⟩;rw [Bo hr,FI];have h1:=QG r.cs (Bh (l.take i))
  have h2:=DW.few h i (by omega);have h3:=(h i r hr).2
  omega
theorem rZ{M:List AR}{q:Option Addr}{cap:Nat}{l:List Br}(hRI:Du M (.slice q l.length cap) l)(hlog:DW l)(hl:l.length≤1000000)(k:Nat)(hk:k≤l.length):CO Tryz.prog 13 #[.slice q l.length cap,I4 (k:Int)] [M] (fun r H'=>∃v s,r= .tuple #[v,I4 0]∧PO v (k:Int) (Bh (l.take k)) s∧H'=[s,M]):=by
 refine EB (qQ q cap l M hRI hlog hl k hk) rfl ?_;rintro r H' ⟨sp,mm,es,ck,lm,rfl,hm,hR,rfl⟩;obtain ⟨hs,hn⟩:=hlog.rows k hk;exact ⟨_,⟨_,_,rfl,⟨sp,mm,es,ck,lm,rfl,hm,hR,hs,hn,rfl⟩,rfl⟩,by simp⟩
theorem Nb{E M:List AR}(q:QM)(te base:Int)(hb:-1000000000000≤base∧base≤1000000000000){pg:Option Addr}{cg:Nat}{L:List RP}(hL:Gs (E++M) (.slice pg L.length cg) L)(hLl:L.length≤1000000){r:CG}(hr:FY q L=some r){lv:Value}{l:List Br}(hl:Du (E++M) lv l)(hcs:∀x∈l,x.cs.length≤1000):CO Tryz.prog 18 #[.agg #[I4 q.kd,I4 q.tb,I4 q.cl,I4 q.lo,I4 q.hi,I4 q.bq,I4 q.ot,I4 te,I4 base,.slice pg L.length cg],lv] [E,M] (fun w H'=>∃(z:GG) (s:List AR) (b:Bool),((b=true∧Ev q base L l=some z.a∧z.ok (s++E++M))∨(b=false∧Ev q base L l=none))∧w= .tuple #[.agg #[I4 z.a.q.kd,I4 z.a.q.tb,I4 z.a.q.cl,I4 z.a.q.lo,I4 z.a.q.hi,I4 z.a.q.bq,I4 z.a.q.ot,.slice z.rp z.a.res.rows.length z.rc,I4 z.a.res.val,.bool z.a.res.fnd,I4 z.a.since,I4 z.a.until_,I4 z.a.base,.slice z.gp z.a.ranges.length z.gc,.slice z.cp z.a.recs.length z.cc],.bool b]∧H'=[s,E,M]):=by
 refine EB (aQ q te base hb hL hLl hr hl hcs) (by simp) ?_;rintro w H' ⟨z,s,b,h1,rfl,rfl⟩;exact ⟨_,⟨z,s,b,by simpa only [tO]using h1,rfl,rfl⟩,by simp⟩
theorem Ju{E M:List AR}(base until_:Cm){z:GG}(hz:z.ok (E++M))(hs:∀x∈z.a.ranges,x.small)(hrl:z.a.ranges.length≤1000000)(hb:-1000000000000≤z.a.base∧z.a.base≤1000000000000)(hcs:∀x∈z.a.recs,x.cs.length≤1000){r:CG}(hr:FY z.a.q z.a.ranges=some r)(Tg:TypeId)(zg:Nat×Nat):Av Tryz.prog 26 #[.agg #[I4 base.p,.string (str base.ch),.string (str base.st)],.agg #[I4 until_.p,.string (str until_.ch),.string (str until_.st)],.agg #[I4 z.a.q.kd,I4 z.a.q.tb,I4 z.a.q.cl,I4 z.a.q.lo,I4 z.a.q.hi,I4 z.a.q.bq,I4 z.a.q.ot,.slice z.rp z.a.res.rows.length z.rc,I4 z.a.res.val,.bool z.a.res.fnd,I4 z.a.since,I4 z.a.until_,I4 z.a.base,.slice z.gp z.a.ranges.length z.gc,.slice z.cp z.a.recs.length z.cc]] [[(1,.cells (Cs.map Bj).toArray Tg zg)],E,M] (.bool (decide (FO base until_ z.a))):=by
 refine EB (aO base until_ hz hs hrl hb hcs hr Tg zg) (by simp) ?_;rintro r H' ⟨rfl,rfl⟩;exact ⟨_,⟨rfl,rfl⟩,by simp⟩
def F3(l:List Br)(a b:Nat):List Br:=(l.drop a).take (b -a)
theorem TB{l:List Br}{a b:Nat}(hb:b≤l.length):(F3 l a b).length=b -a:=by unfold F3;rw [tL,tN];omega
theorem Vo{l:List Br}{a b k:Nat}{x:Br}(h:(F3 l a b)[k]?=some x):l[a+k]?=some x∧k<b -a:=by
 unfold F3 at h;rw [uX]at h;split at h
 · rename_i h9;rw [uw]at h;exact ⟨h,h9⟩
 · cases h
theorem Km{l:List Br}(h:DW l)(a b:Nat):∀x∈F3 l a b,x.cs.length≤1000:=fun x hx=>by
 obtain ⟨k,hk⟩:=uV hx;have:=(h _ x (Vo hk).1).2
 omega
theorem GK{l:List Br}(h:DW l)(hl:l.length≤20){k:Nat}(hk:k≤l.length)(q:QM):(CZ (Bh (l.take k)) q).length≤100:=by
 have h1:=h.few k hk;have h2:=(@QD (Bh (l.take k)) q.tb q.cl.toNat q.lo q.hi).1
 unfold CZ;omega
theorem Le(rs:List AP)(q:QM):(Ec rs q).length≤1+(CZ rs q).length:=by
 unfold Ec;split
 · rw [tY,tJ];omega
 · simp
noncomputable def EC(l:List Br)(a b:Nat)(q:QM):Option Lp:=Ev q (a:Int) (Ec (Bh (l.take a)) q) (F3 l a b)
theorem Xl(c:Int)(n:Nat)(hn:0<n)(hn2:n≤1000000)(h1:-9223372036854775808≤c)(h2:c≤9223372036854775807):Av Tryz.prog 32 #[I4 c,I4 (n:Int)] [] (I4 (C9 c n:Int)):=by
 refine Se func32 ntmps32 [0,1] ?_;intro u R;refine Zq<|Zg<|Za Y<|Z0<|Zx<|Zq<|Zq<|Zg<|Zm Y<|Zv (Eb Y Y)<|Z0<|Zx ?_;refine Ao Y (fun hc1=>?_) (fun hc1=>?_)
 ·
  refine Zg<|Zm Y<|Yi Y Y ?_
  (refine BM (TJ Y (IntWalk.i64_in _ ?_)) ?_;(focus (omega)))
  refine Za Y<|Z0<|Zx<|Zq<|Zg<|Zm Y<|Zm Y ?_
  (refine BM (TH Y Y ?_ rfl) ?_;(focus (omega)))
  refine Za Y<|Z0<|Zx<|A9 ?_;refine AB rfl results32 Y (by exact ⟨by rw [←NF];simp [*],rfl⟩)
 refine AC<|Zx<|Zq<|Zg<|Zm Y<|Zm Y ?_
 (refine BM (TH Y Y ?_ rfl) ?_;(focus (omega)))
 refine Za Y<|Z0<|Zx<|A9 ?_;refine AB rfl results32 Y (by exact ⟨by rw [←NF];simp [*],rfl⟩)
theorem KX(c:Int)(n:Nat)(hn:0<n)(hn2:n≤1000000)(h1:-9223372036854775808≤c)(h2:c≤9223372036854775807):Av Tryz.prog 106 #[I4 c,I4 (n:Int)] [] (I4 (C9 c n:Int)):=by
 refine Se func106 ntmps106 [0,1] ?_;intro u R;refine Zq<|Zg<|Za Y<|Z0<|Zx<|Zq<|Zq<|Zg<|Zm Y<|Zv (Eb Y Y)<|Z0<|Zx ?_;refine Ao Y (fun hc1=>?_) (fun hc1=>?_)
 ·
  refine Zg<|Zm Y<|Yi Y Y ?_
  (refine BM (TJ Y (IntWalk.i64_in _ ?_)) ?_;(focus (omega)))
  refine Za Y<|Z0<|Zx<|Zq<|Zg<|Zm Y<|Zm Y ?_
  (refine BM (TH Y Y ?_ rfl) ?_;(focus (omega)))
  refine Za Y<|Z0<|Zx<|A9 ?_;refine AB rfl results106 Y (by exact ⟨by rw [←NF];simp [*],rfl⟩)
 refine AC<|Zx<|Zq<|Zg<|Zm Y<|Zm Y ?_
 (refine BM (TH Y Y ?_ rfl) ?_;(focus (omega)))
 refine Za Y<|Z0<|Zx<|A9 ?_;refine AB rfl results106 Y (by exact ⟨by rw [←NF];simp [*],rfl⟩)
set_option maxHeartbeats 1000000 in
theorem ow(q0 q1 q2 q3 q4:Int)(hq01:-9223372036854775808≤q0)(hq02:q0≤9223372036854775807)(hq11:-9223372036854775808≤q1)(hq12:q1≤9223372036854775807)(hq21:-9223372036854775808≤q2)(hq22:q2≤9223372036854775807)(hq31:-9223372036854775808≤q3)(hq32:q3≤9223372036854775807)(hq41:-9223372036854775808≤q4)(hq42:q4≤9223372036854775807):CO Tryz.prog 45 #[.agg #[I4 q0,I4 q1,I4 q2,I4 q3,I4 q4]] [] (fun r H'=>∃q:QM,BP q∧r= .agg #[I4 q.kd,I4 q.tb,I4 q.cl,I4 q.lo,I4 q.hi,I4 q.bq,I4 q.ot]∧H'=[]):=by
 have htq07:=H9 7 (by decide) hq01 hq02;have hpq07:=Ez (q0.tdiv 7) 3 (by decide)
 have htq19:=H9 9 (by decide) hq11 hq12;have hpq19:=Ez (q1.tdiv 9) 4 (by decide)
 have htq43:=H9 3 (by decide) hq41 hq42;have hpq43:=Ez (q4.tdiv 3) 3 (by decide)
 have htq49:=H9 9 (by decide) hq41 hq42;have hpq49:=Ez (q4.tdiv 9) 3 (by decide)
 have hpq0:=Ez q0 7 (by decide);have hpq1:=Ez q1 9 (by decide)
 have hpq2:=Ez q2 14 (by decide);have hpq3:=Ez q3 14 (by decide)
 have hpq4:=Ez q4 3 (by decide);refine Se func45 ntmps45 [0] ?_;intro u R;refine Zq<|Zg<|Ze (Bx #[_,_,_,_,_]) ?_;rintro _ _ ⟨bx,rfl,rfl⟩;refine Ze (Al zeroValue30 #[_,_,_,_,_,_,_]) ?_;rintro _ _ ⟨br,rfl,rfl⟩;refine Z0<|Zx<|Zb [1,2] ?_;refine CW (e0:=[]) (H0:=[]) (fun e H=>∃(bq:Nat),(True)∧e=[(3,I5 bq)]∧H=[[(bq,.cells #[I4 ((1+C9 q0 7:Nat):Int),I4 (C9 (q0.tdiv 7) 3:Int),I4 0,I4 0,I4 0,I4 0,I4 0] 30 (0,0))]]) Wp ?hx_1 ?hy_1
 case hx_1=>
  refine BI (n:=11) (0::1::3::7::0::16::48::119::255::0::1023::[]) 1668 (by kernel_rfl) (by kernel_rfl) rfl ?_;refine Zi 1 0 rfl (BG (j:=0) underlying23 sizeOf3 Y Y (by first|omega|decide|(simp;done))) ?_;refine Zj 3 1 rfl isAgg3 Y ?_;refine Zi 19 4 rfl (BG (j:=0) underlying23 sizeOf3 Y Y (by first|omega|decide|(simp;done))) ?_;refine Zj 51 5 rfl isAgg3 Y ?_;refine Zi 115 6 rfl (TI (m:=q0) (n:=7) Y Y (by decide) (IntWalk.i64_in _ (by have:=H9 7 (by decide) hq01 hq02;omega))) ?_;refine Zz (l:=[2,9]) ?_;refine Zy 3 119 [5,1] [true,false] [(5,(_,_))] rfl Y rfl rfl rfl rfl (Zu [_,_] Y call106 Y rfl (KX q0 7 (by decide) (by decide) hq01 hq02)) ?hk_2 (fun _ _ h=>h.elim) ?hl_2
  case hk_2=>
   rintro _ _ ⟨rfl,rfl⟩;refine ⟨Zk (Ad),?_⟩;refine Zi 127 3 rfl (D6 (m:=1) Y Y (by omega)) ?_;refine Zz (l:=[7,9]) ?_;refine Zy 119 255 [5] [false] [] rfl Y rfl rfl rfl rfl (Zu [_,_] Y call106 Y rfl (KX (q0.tdiv 7) 3 (by decide) (by decide) htq07.1 htq07.2)) ?hk_3 (fun _ _ h=>h.elim) ?hl_3
   case hk_3=>
    rintro _ _ ⟨rfl,rfl⟩;refine ⟨Ad,?_⟩;refine Zi 511 8 rfl (BK (vs:=[(0,I4 ((1+C9 q0 7:Nat):Int)),(1,I4 (C9 (q0.tdiv 7) 3:Int))]) (cs:=#[I4 ((1+C9 q0 7:Nat):Int),I4 (C9 (q0.tdiv 7) 3:Int),I4 0,I4 0,I4 0,I4 0,I4 0]) Y (Aa (pl:=#[(0,1),(1,1),(2,1),(3,1),(4,1),(5,1),(6,1)]) zeroValue30 underlying30 (fun _=>by kernel_rfl) (by kernel_rfl))) ?_;refine Yw 9 1023 rfl (Al zeroValue30 #[_,_,_,_,_,_,_]) ?_;rintro _ _ ⟨bq,rfl,rfl⟩;refine Yw 10 2047 rfl (Xw sizeOf30 #[I4 ((1+C9 q0 7:Nat):Int),I4 (C9 (q0.tdiv 7) 3:Int),I4 0,I4 0,I4 0,I4 0,I4 0]) ?_;rintro _ _ ⟨rfl,rfl⟩;refine Am ?_;refine Zn [3,1,2] ?_;refine BB (e':=[(3,_)]) (by exact ⟨bq,trivial,rfl,rfl⟩)
   refine Zy 0 639 [5] [true] [(5,(_,_))] rfl Y rfl rfl rfl rfl (Al zeroValue30 #[_,_,_,_,_,_,_]) ?hk_7 (fun _ _ h=>h.elim) ?hl_7
   case hk_7=>
    rintro _ _ ⟨bq,rfl,rfl⟩;refine ⟨Zk (Ad),?_⟩;refine Yw 7 767 rfl (Zu [_,_] Y call106 Y rfl (KX (q0.tdiv 7) 3 (by decide) (by decide) htq07.1 htq07.2)) ?_;rintro _ _ ⟨rfl,rfl⟩;refine Zi 1023 8 rfl (BK (vs:=[(0,I4 ((1+C9 q0 7:Nat):Int)),(1,I4 (C9 (q0.tdiv 7) 3:Int))]) (cs:=#[I4 ((1+C9 q0 7:Nat):Int),I4 (C9 (q0.tdiv 7) 3:Int),I4 0,I4 0,I4 0,I4 0,I4 0]) Y (Aa (pl:=#[(0,1),(1,1),(2,1),(3,1),(4,1),(5,1),(6,1)]) zeroValue30 underlying30 (fun _=>by kernel_rfl) (by kernel_rfl))) ?_;refine Yw 10 2047 rfl (Xw sizeOf30 #[I4 ((1+C9 q0 7:Nat):Int),I4 (C9 (q0.tdiv 7) 3:Int),I4 0,I4 0,I4 0,I4 0,I4 0]) ?_;rintro _ _ ⟨rfl,rfl⟩;refine Am ?_;refine Zn [3,1,2] ?_;refine BB (e':=[(3,_)]) (by exact ⟨bq,trivial,rfl,rfl⟩)
   exact Aw
  refine Zy 0 627 [5,1] [true,true] [(5,(_,_)),(1,(_,_))] rfl Y rfl rfl rfl rfl (Al zeroValue30 #[_,_,_,_,_,_,_]) ?hk_11 (fun _ _ h=>h.elim) ?hl_11
  case hk_11=>
   rintro _ _ ⟨bq,rfl,rfl⟩;refine ⟨Zk (Zk (Ad)),?_⟩;refine Yz 2 3 631 [5,1] [true,false] [(5,(_,_))] rfl Y rfl rfl rfl rfl (Zu [_,_] Y call106 Y rfl (KX q0 7 (by decide) (by decide) hq01 hq02)) ?_;rintro _ _ ⟨rfl,rfl⟩;refine ⟨Zk (Ad),?_⟩;refine Zi 639 3 rfl (D6 (m:=1) Y Y (by omega)) ?_;refine Yw 7 767 rfl (Zu [_,_] Y call106 Y rfl (KX (q0.tdiv 7) 3 (by decide) (by decide) htq07.1 htq07.2)) ?_;rintro _ _ ⟨rfl,rfl⟩;refine Zi 1023 8 rfl (BK (vs:=[(0,I4 ((1+C9 q0 7:Nat):Int)),(1,I4 (C9 (q0.tdiv 7) 3:Int))]) (cs:=#[I4 ((1+C9 q0 7:Nat):Int),I4 (C9 (q0.tdiv 7) 3:Int),I4 0,I4 0,I4 0,I4 0,I4 0]) Y (Aa (pl:=#[(0,1),(1,1),(2,1),(3,1),(4,1),(5,1),(6,1)]) zeroValue30 underlying30 (fun _=>by kernel_rfl) (by kernel_rfl))) ?_;refine Yw 10 2047 rfl (Xw sizeOf30 #[I4 ((1+C9 q0 7:Nat):Int),I4 (C9 (q0.tdiv 7) 3:Int),I4 0,I4 0,I4 0,I4 0,I4 0]) ?_;rintro _ _ ⟨rfl,rfl⟩;refine Am ?_;refine Zn [3,1,2] ?_;refine BB (e':=[(3,_)]) (by exact ⟨bq,trivial,rfl,rfl⟩)
  exact Aw
 rintro _ _ ⟨bq,_,rfl,rfl⟩;refine Zq<|Zq<|Zg<|Zh 0 underlying30 rfl rfl sizeOf3 Y<|Zl isAgg3 Y ?_;refine Zv (C8 (n:=1) Y Y)<|Z0<|Zx ?_;refine Ao Y (fun k1=>?_) (fun k1=>?_)
 ·
  refine Zq<|Zg ?_;refine BM (BG (j:=1) underlying23 sizeOf3 Y Y (by first|omega|decide|(simp;done))) ?_;refine Zl isAgg3 Y ?_;refine Xr [_,_] Y call106 Y rfl (KX q1 9 (by decide) (by decide) hq11 hq12) ?_;refine Ya (m:=1) Y Y<|Zh 3 underlying30 rfl rfl sizeOf3 Y<|Xe (Zs sizeOf3 Y Y rfl (hi:=by first|omega|decide|(simp;done))) ?_;refine Z0<|Zx<|Zq<|Zg<|Zh 3 underlying30 rfl rfl sizeOf3 Y<|Zl isAgg3 Y ?_;refine Zh 4 underlying30 rfl rfl sizeOf3 Y<|Xe (Zs sizeOf3 Y Y rfl (hi:=by first|omega|decide|(simp;done))) ?_;refine Z0<|Zn [2,3] ?_;refine Zx<|Zq<|Zg<|Zo Wh (AX (cs:=#[_,_,_,_,_,_,_]) isAgg30 sizeOf30 Y Wb (by exact Au rfl)) ?_;refine Xe (BN sizeOf30 Y Y (by(simp [Value.oneCell'];done)) Wu (by exact DU rfl) (by first|rfl|(simp;done)) Wb (by exact BQ _)) ?_;refine Z0<|Zx<|A9<|Zt ?_;refine D7 rfl results45 Y Wh (Ah isAgg30 sizeOf30 Wn (Au rfl)) (by exact ⟨⟨((1+C9 q0 7:Nat):Int),(C9 (q0.tdiv 7) 3:Int),0,((1+C9 q1 9:Nat):Int),((1+C9 q1 9:Nat):Int),0,0⟩,LM (by omega),rfl,rfl⟩)
 refine AC<|Zx<|Zq<|Zg ?_;refine BM (BG (j:=1) underlying23 sizeOf3 Y Y (by first|omega|decide|(simp;done))) ?_;refine Zl isAgg3 Y ?_;refine Zv (TI (m:=q1) (n:=9) Y Y (by decide) (IntWalk.i64_in _ (by have:=H9 9 (by decide) hq11 hq12;omega))) ?_;refine Xr [_,_] Y call106 Y rfl (KX (q1.tdiv 9) 4 (by decide) (by decide) htq19.1 htq19.2) ?_;refine Zh 2 underlying30 rfl rfl sizeOf3 Y<|Xe (Zs sizeOf3 Y Y rfl (hi:=by first|omega|decide|(simp;done))) ?_;refine Z0<|Zx<|Zq<|Zg ?_;refine BM (BG (j:=2) underlying23 sizeOf3 Y Y (by first|omega|decide|(simp;done))) ?_;refine Zl isAgg3 Y ?_;refine Xr [_,_] Y call106 Y rfl (KX q2 14 (by decide) (by decide) hq21 hq22) ?_
 (refine BM (G8 Y Y (IntWalk.i64_in _ ?_)) ?_;(focus (omega)))
 refine Zh 3 underlying30 rfl rfl sizeOf3 Y<|Xe (Zs sizeOf3 Y Y rfl (hi:=by first|omega|decide|(simp;done))) ?_;refine Z0<|Zn [1,2,3] ?_;refine Zx<|Zq<|BI (n:=8) (0::1::0::4::12::31::63::127::[]) 144 (by kernel_rfl) (by kernel_rfl) rfl ?_;refine Zi 1 0 rfl (AZ (off:=3) underlying30 rfl rfl sizeOf3 Y)<|Zj 3 1 rfl isAgg3 Y ?_;refine Zi 7 2 rfl (BG (j:=3) underlying23 sizeOf3 Y Y (by first|omega|decide|(simp;done))) ?_;refine Zj 15 3 rfl isAgg3 Y ?_;refine Yz 4 12 31 [3,1] [false,true] [(1,(_,_))] rfl Y rfl rfl rfl rfl (Zu [_,_] Y call106 Y rfl (KX q3 14 (by decide) (by decide) hq31 hq32)) ?_;rintro _ _ ⟨rfl,rfl⟩;refine ⟨Zk (Ad),?_⟩
 (refine EF (D':=63) 5 (JI Y Y (IntWalk.i64_in _ ?_)) ?_;(focus (omega)))
 refine Zi 127 6 rfl (AZ (off:=4) underlying30 rfl rfl sizeOf3 Y)<|Zz (l:=[7]) ?_;refine Zy 127 255 [1] [false] [] rfl Y rfl rfl rfl rfl (Zs sizeOf3 Y Y rfl (hi:=by first|omega|decide|(simp;done))) ?hk_18 (fun _ _ h=>h.elim) ?hl_18
 case hk_18=>
  rintro _ _ ⟨rfl,rfl⟩;refine ⟨Ad,?_⟩;refine Am ?_;refine Zx<|Zb [1,2,3] ?_;refine CW (e0:=[]) (H0:=[[(bq,.cells #[I4 ((1+C9 q0 7:Nat):Int),I4 (C9 (q0.tdiv 7) 3:Int),I4 (C9 (q1.tdiv 9) 4:Int),I4 ((C9 q2 14:Int) -2),I4 ((C9 q2 14:Int) -2+(C9 q3 14:Int)),I4 0,I4 0] 30 (0,0))]]) (fun e H=>∃(lo hi:Int),(-100≤lo∧lo≤hi∧hi≤100)∧e=[]∧H=[[(bq,.cells #[I4 ((1+C9 q0 7:Nat):Int),I4 (C9 (q0.tdiv 7) 3:Int),I4 (C9 (q1.tdiv 9) 4:Int),I4 lo,I4 hi,I4 0,I4 0] 30 (0,0))]]) Wp ?hx_19 ?hy_19
  case hx_19=>
   refine Zq<|Zg<|Zh 2 underlying30 rfl rfl sizeOf3 Y<|Zl isAgg3 Y ?_;refine Zv (C8 (n:=3) Y Y)<|Z0<|Zx ?_;refine Ao Y (fun k2=>?_) (fun k2=>?_)
   ·
    refine Zq<|Zg<|Zh 3 underlying30 rfl rfl sizeOf3 Y<|Zl isAgg3 Y ?_
    (refine BM (ZO Y Y (IntWalk.i64_in _ ?_)) ?_;(focus (omega)))
    (refine BM (G8 Y Y (IntWalk.i64_in _ ?_)) ?_;(focus (omega)))
    refine Zh 3 underlying30 rfl rfl sizeOf3 Y<|Xe (Zs sizeOf3 Y Y rfl (hi:=by first|omega|decide|(simp;done))) ?_;refine Z0<|Zx<|Zg<|Zh 4 underlying30 rfl rfl sizeOf3 Y<|Zl isAgg3 Y ?_
    (refine BM (ZO Y Y (IntWalk.i64_in _ ?_)) ?_;(focus (omega)))
    (refine BM (G8 Y Y (IntWalk.i64_in _ ?_)) ?_;(focus (omega)))
    refine Zh 4 underlying30 rfl rfl sizeOf3 Y<|Xe (Zs sizeOf3 Y Y rfl (hi:=by first|omega|decide|(simp;done))) ?_;refine Z0<|Zn [1,2,3] ?_;refine BB (e':=[]) (by(have h9:C9 (q1.tdiv 9) 4=3:=k2;exact ⟨((C9 q2 14:Int) -2)*3 -20,((C9 q2 14:Int) -2+(C9 q3 14:Int))*3 -20,⟨by omega,by omega,by omega⟩,rfl,rfl⟩))
   refine AC<|Zn [1,2,3] ?_;refine BB (e':=[]) (by exact ⟨(C9 q2 14:Int) -2,(C9 q2 14:Int) -2+(C9 q3 14:Int),⟨by omega,by omega,by omega⟩,rfl,rfl⟩)
  rintro _ _ ⟨lo,hi,⟨hlo,hlh,hhi⟩,rfl,rfl⟩;refine Zb [1,2,3] ?_;refine CW (e0:=[]) (H0:=[[(bq,.cells #[I4 ((1+C9 q0 7:Nat):Int),I4 (C9 (q0.tdiv 7) 3:Int),I4 (C9 (q1.tdiv 9) 4:Int),I4 lo,I4 hi,I4 0,I4 0] 30 (0,0))]]) (fun e H=>∃(b9:Int),((3≤C9 q0 7∧1≤b9∧b9≤3)∨(C9 q0 7<3∧b9=0))∧e=[]∧H=[[(bq,.cells #[I4 ((1+C9 q0 7:Nat):Int),I4 (C9 (q0.tdiv 7) 3:Int),I4 (C9 (q1.tdiv 9) 4:Int),I4 lo,I4 hi,I4 b9,I4 0] 30 (0,0))]]) Wp ?hx_22 ?hy_22
  case hx_22=>
   refine Zq<|Zg<|Zh 0 underlying30 rfl rfl sizeOf3 Y<|Zl isAgg3 Y ?_;refine Zv (FR (n:=4) Y Y)<|Z0<|Zx ?_;refine Ao Y (fun k3=>?_) (fun k3=>?_)
   ·
    refine Zg ?_;refine BM (BG (j:=4) underlying23 sizeOf3 Y Y (by first|omega|decide|(simp;done))) ?_;refine Zl isAgg3 Y ?_;refine Xr [_,_] Y call106 Y rfl (KX q4 3 (by decide) (by decide) hq41 hq42) ?_;refine Ya (m:=1) Y Y<|Zh 5 underlying30 rfl rfl sizeOf3 Y<|Xe (Zs sizeOf3 Y Y rfl (hi:=by first|omega|decide|(simp;done))) ?_;refine Z0<|Zn [1,2,3] ?_;refine BB (e':=[]) (by exact ⟨((1+C9 q4 3:Nat):Int),.inl ⟨by omega,by omega,by omega⟩,rfl,rfl⟩)
   refine AC<|Zn [1,2,3] ?_;refine BB (e':=[]) (by exact ⟨0,.inr ⟨by omega,rfl⟩,rfl,rfl⟩)
  rintro _ _ ⟨b9,hb9,rfl,rfl⟩;refine Zb [1,2,3] ?_;refine CW (e0:=[(1,_)]) (H0:=[[(bq,.cells #[I4 ((1+C9 q0 7:Nat):Int),I4 (C9 (q0.tdiv 7) 3:Int),I4 (C9 (q1.tdiv 9) 4:Int),I4 lo,I4 hi,I4 b9,I4 0] 30 (0,0))]]) (fun e H=>∃(b8 o8:Int),(BP ⟨((1+C9 q0 7:Nat):Int),(C9 (q0.tdiv 7) 3:Int),(C9 (q1.tdiv 9) 4:Int),lo,hi,b8,o8⟩)∧e=[]∧H=[[(bq,.cells #[I4 ((1+C9 q0 7:Nat):Int),I4 (C9 (q0.tdiv 7) 3:Int),I4 (C9 (q1.tdiv 9) 4:Int),I4 lo,I4 hi,I4 b8,I4 o8] 30 (0,0))]]) Wp ?hx_25 ?hy_25
  case hx_25=>
   refine Zq<|Zg<|Zh 0 underlying30 rfl rfl sizeOf3 Y<|Zl isAgg3 Y ?_;refine Zv (C8 (n:=7) Y Y)<|Z0<|Zx ?_;refine Ao Y (fun k4=>?_) (fun k4=>?_)
   ·
    refine Zq<|Zg ?_;refine BM (BG (j:=4) underlying23 sizeOf3 Y Y (by first|omega|decide|(simp;done))) ?_;refine Zl isAgg3 Y ?_;refine Zv (TI (m:=q4) (n:=3) Y Y (by decide) (IntWalk.i64_in _ (by have:=H9 3 (by decide) hq41 hq42;omega))) ?_;refine Xr [_,_] Y call106 Y rfl (KX (q4.tdiv 3) 3 (by decide) (by decide) htq43.1 htq43.2) ?_;refine Zh 6 underlying30 rfl rfl sizeOf3 Y<|Xe (Zs sizeOf3 Y Y rfl (hi:=by first|omega|decide|(simp;done))) ?_;refine Z0<|Zx<|Zq<|Zg ?_;refine BM (BG (j:=4) underlying23 sizeOf3 Y Y (by first|omega|decide|(simp;done))) ?_;refine Zl isAgg3 Y ?_;refine Zv (TI (m:=q4) (n:=9) Y Y (by decide) (IntWalk.i64_in _ (by have:=H9 9 (by decide) hq41 hq42;omega))) ?_;refine Xr [_,_] Y call106 Y rfl (KX (q4.tdiv 9) 3 (by decide) (by decide) htq49.1 htq49.2) ?_;refine Zv (DJ (n:=0) Y Y)<|Z0<|Zn [2,3,75] ?_;refine Zx ?_;refine Ao Y (fun k5=>?_) (fun k5=>?_)
    ·
     refine Zg<|Zh 5 underlying30 rfl rfl sizeOf3 Y<|Xe (Zs sizeOf3 Y Y rfl (hi:=by first|omega|decide|(simp;done))) ?_;refine Z0<|Zn [2,3] ?_;refine BB (e':=[]) (by(have h9:0<C9 (q4.tdiv 9) 3:=k5;exact ⟨2,(C9 (q4.tdiv 3) 3:Int),LM (by omega),rfl,rfl⟩))
    refine AC<|Zn [2,3] ?_;refine BB (e':=[]) (by(have h9:1+C9 q0 7=7:=k4;exact ⟨b9,(C9 (q4.tdiv 3) 3:Int),LM (by omega),rfl,rfl⟩))
   refine AC<|Zn [2,3] ?_;refine BB (e':=[]) (by exact ⟨b9,0,LM (by omega),rfl,rfl⟩)
  rintro _ _ ⟨b8,o8,hv,rfl,rfl⟩;refine Zq<|Zg<|Zo Wh (AX (cs:=#[_,_,_,_,_,_,_]) isAgg30 sizeOf30 Y Wb (by exact Au rfl)) ?_;refine Xe (BN sizeOf30 Y Y (by(simp [Value.oneCell'];done)) Wu (by exact DU rfl) (by first|rfl|(simp;done)) Wb (by exact BQ _)) ?_;refine Z0<|Zx<|A9 ?_;refine D7 rfl results45 Y Wh (Ah isAgg30 sizeOf30 Wn (Au rfl)) (by exact ⟨⟨_,_,_,_,_,_,_⟩,hv,rfl,rfl⟩)
 exact Aw
end Go.Proofs.YtkdgffcfmgmemaaGreatDoor
