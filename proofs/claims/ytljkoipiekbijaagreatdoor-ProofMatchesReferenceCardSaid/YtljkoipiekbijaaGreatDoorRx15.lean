/- The references: a record encoded, the next head, the heads of a log. -/
import Derived.Test.YtljkoipiekbijaaGreatDoorRx11
set_option linter.unusedVariables false
set_option linter.unusedSimpArgs false
namespace Go.Proofs.YtljkoipiekbijaaGreatDoor
open Go.Proofs.Tryz
open Go Go.RowKit Gw
set_option maxRecDepth 100000
attribute [local irreducible] Gw.At Gw.Nx Gw.Ops
theorem Sl(a b:List Int):Cw (a++b)=Cw a++Cw b:=by unfold Cw;rw [O2]
theorem zG{c:Chg}(h:c.ok)(g:c.had=true):∀n∈[c.o.a,c.o.b,c.o.c],-4611686018427387903<=n/\n<=4611686018427387903:=fun n hn=>(Pb h).2.1 n (by
 unfold vs2;split;· rw [Uj g];exact HE _ hn
 · rw [Uj g];exact hn)
theorem zH{c:Chg}(h:c.ok)(g:c.has=true):∀n∈[c.n.a,c.n.b,c.n.c],-4611686018427387903<=n/\n<=4611686018427387903:=fun n hn=>(Pb h).2.1 n (by rw [Ui g];exact G2 _ hn)
set_option maxHeartbeats 1000000 in
theorem VF(p:Int)(q:C1)(cap:Nat)(cs:List Chg)(M:List AR)(Z:DJ M (.slice q cs.length cap) cs)(E:Es p cs):BB prog 104 #[.agg #[I4 p,.slice q cs.length cap]] [M] (.tuple #[.string (str (Kl p cs)),I4 0]):=by
 have gm:=mL;obtain ⟨p9,X,e9,kz,hg⟩:=id Z;injection e9 with e91 e92 e93
 subst e91 e93;have K:=PT E
 have af:=E.len;refine Se func104 ntmps104 [0] ?_;intro u R;refine A2<|Ze (Bx #[_,_])<|AE fun b1=>Za Y<|CT Y<|A2<|Zo Wh (Pa #[_,_] J1 Fk Y) ?_;refine Xr [_] Y call74 Y V (NH p q cap cs M Z) ?_;rw [Cp E];refine Zv (CR Y)<|A6<|Af Y (fun hv=>by cases hv)<|fun hv=>AB<|BT<|Zh 0 G3 V rfl A4 Y<|Zl A5 Y ?_;refine Zh 1 G3 V rfl ID Y<|Zl J0 Y ?_;refine Zv (AJ GF Y)<|Ze (Ah (vs:=[_,_]) (cs:=[_,_]) HF A4 K1 Y V rfl V rfl V)<|AE fun gb=>Xr [_] Y call157 Y V (Sg gb 0 2 _ _ _ [p,(cs.length:Int)] (LF [p,(cs.length:Int)]) C4 K) ?_;refine AN Y<|Zn [1,4] ?_;refine Zx<|Zq<|A2<|AF Y<|AQ<|Zb [4,5,1] ?_;refine Av (e0:=[(4,_),(5,_)]) (fun m e H=>∃(i:Nat),m=cs.length -i/\(i<=cs.length)/\e=[(4,.string (str ((Cw [p,(cs.length:Int)]++(cs.take i).flatMap OQ)))),(5,I4 (i:Int))]/\H=[]) (by exact ⟨0,rfl,CD _,by rw [Hh,jt,HT];rfl,rfl⟩) Wp ?_;rintro _ _ _ ⟨i,rfl,hi,rfl,rfl⟩;refine C0 Y<|Zh 1 G3 V rfl ID Y<|Zl J0 Y ?_;refine Zv (AJ GF Y)<|Zv (Ak Y Y)<|A6<|Ad Y (fun I=>?_) (fun I=>?_);·
  obtain ⟨x,hx⟩:∃x,cs[i]?=some x:=⟨_,Bk I⟩;obtain ⟨g,off,cur,T,zz,rfl,hm,l8,U⟩:=hg i x hx;have G:=E.all i x hx
  obtain ⟨J,W,gy,kv⟩:=Pb G;have ax:=De _ J
  have bf:=De _ W;have l9:=WA E i
  have cu:=fC x;have bn:(Cw (vs1 x)).length<=(Cw (vs2 x)).length:=by unfold vs2;split;rw [Sl,C7];omega;omega
  have cO:[x.t,x.k,fl2 x].length=3:=rfl;refine B3<|Zq<|AQ<|A2<|Zh 1 G3 V rfl ID Y<|Zl J0 Y ?_;refine Zm Y<|BN (A9 GF D2 Y Y Fl)<|Cj (cs:=[(g,.cells cur T zz)]) (by simp [hm]) (A7 (cs:=x.Ax2) G1 D2 Y A0 U) rfl rfl ?_;refine Ze (Al MT #[_,_,_,_,_,_,_,_,_,_])<|AE fun cb=>Xe (Xw D2 x.Ax2) ?_;refine A6<|A2<|AN Y<|Zn [1,4,5,6,7] ?_;refine Zx<|Zb [7,1,4,5,6] ?_;refine C9 (e0:=[(7,_)]) (H0:=[]) (fun e H=>(True)/\e=[(7,I4 (fl1 x))]/\H=[]) Wp ?hx_2 ?hy_2
  case hx_2=>
   refine A2<|Zh 2 CM V rfl DP Y<|Zl Fc Y ?_;refine A6<|Af Y (fun y=>?_) (fun y=>?_);focus
    refine Zg<|Za Y<|Z0 ?_
   rotate_left
   focus
    refine AB ?_
   all_goals
    refine Zn [7,1,4,5,6] ?_;refine BD (e':=[(7,_)]) (by exact ⟨trivial,by first|rw [xL y]|rw [xM y],rfl⟩)
  rintro _ _ ⟨_,rfl,rfl⟩;refine Zb [7,1,4,5,6] ?_;refine C9 (e0:=[(7,_)]) (H0:=[]) (fun e H=>(True)/\e=[(7,I4 (fl2 x))]/\H=[]) Wp ?hx_5 ?hy_5
  case hx_5=>
   refine A2<|Zh 6 CM V rfl DP Y<|Zl Fc Y ?_;refine A6<|Af Y (fun z=>?_) (fun z=>?_);focus
    refine Zg<|Zm Y<|Yi Y Y<|Za Y<|Z0 ?_
   rotate_left
   focus
    refine AB ?_
   all_goals
    refine Zn [7,1,4,5,6] ?_;refine BD (e':=[(7,_)]) (by exact ⟨trivial,by first|rw [xJ z]|rw [xK z],rfl⟩)
  rintro _ _ ⟨_,rfl,rfl⟩;refine Zb [4,7,1,5,6] ?_;refine C9 (e0:=[(4,_),(7,_)]) (H0:=[]) (fun e H=>(True)/\e=[(4,.string (str ((Cw [p,(cs.length:Int)]++(cs.take i).flatMap OQ)++Cw [x.t,x.k,fl2 x])))]/\H=[]) Wp ?hx_8 ?hy_8
  case hx_8=>
   refine Zg<|Zm Y<|Zh 0 CM V rfl A4 Y<|Zl A5 Y ?_;refine Zh 1 CM V rfl A4 Y<|Zl A5 Y ?_;refine Zm Y<|Ze (Ah (vs:=[_,_,_]) (cs:=[_,_,_]) HF A4 K1 Y V rfl V rfl V)<|AE fun gp=>Xr [_] Y call157 Y V (Sg gp 0 3 _ _ _ [x.t,x.k,fl2 x] (LF [x.t,x.k,fl2 x]) C4 J) ?_;refine BN (EH Y Y (by rw [Be,Be];omega))<|AN Y<|Zn [4,1,5,6] ?_;refine BD (e':=[(4,_)]) (by exact ⟨trivial,by rw [Ec],rfl⟩)
  rintro _ _ ⟨_,rfl,rfl⟩;have d9:((Cw [p,(cs.length:Int)]++(cs.take i).flatMap OQ)++Cw [x.t,x.k,fl2 x]).length=_:=C7
  refine Zb [4,1,5,6] ?_;refine C9 (e0:=[(4,_)]) (H0:=[]) (fun e H=>(True)/\e=[(4,.string (str ((Cw [p,(cs.length:Int)]++(cs.take i).flatMap OQ)++Cw [x.t,x.k,fl2 x]++Cw (vs1 x))))]/\H=[]) Wp ?hx_10 ?hy_10
  case hx_10=>
   refine A2<|Zh 2 CM V rfl DP Y<|Zl Fc Y ?_;refine A6<|Af Y (fun y=>?_) (fun y=>?_);·
    refine Zg<|Zm Y<|Zh 3 CM V rfl Dg Y ?_;refine BN (Cf (j:=0) HS A4 Y Y Fl)<|Zl A5 Y ?_;refine Zh 3 CM V rfl Dg Y ?_;refine BN (Cf (j:=1) HS A4 Y Y Fl)<|Zl A5 Y ?_;refine Zh 3 CM V rfl Dg Y ?_;refine BN (Cf (j:=2) HS A4 Y Y Fl)<|Zl A5 Y ?_;refine Ze (Ah (vs:=[_,_,_]) (cs:=[_,_,_]) HF A4 K1 Y V rfl V rfl V)<|AE fun gq=>Xr [_] Y call157 Y V (Sg gq 0 3 _ _ _ [x.o.a,x.o.b,x.o.c] (LF [x.o.a,x.o.b,x.o.c]) C4 (zG G y)) ?_;refine BN (EH Y Y (by(have O:=De _ (zG G y);simp only [GB,My]at O;rw [Be,Be];omega)))<|AN Y<|Zn [4,1,5,6] ?_;refine BD (e':=[(4,_)]) (by exact ⟨trivial,by(rw [Uj y,Ec];done),V⟩)
   refine AB<|Zn [4,1,5,6] ?_;refine BD (e':=[(4,_)]) (by exact ⟨trivial,by(rw [mo y];simp [Cw];done),V⟩)
  rintro _ _ ⟨_,rfl,rfl⟩;have ek:((Cw [p,(cs.length:Int)]++(cs.take i).flatMap OQ)++Cw [x.t,x.k,fl2 x]++Cw (vs1 x)).length=_:=C7
  refine A2<|Zh 6 CM V rfl DP Y<|Zl Fc Y ?_;refine A6<|Af Y (fun z=>?_) (fun z=>?_);·
   refine Zg<|Zm Y<|Zh 7 CM V rfl Dg Y ?_;refine BN (Cf (j:=0) HS A4 Y Y Fl)<|Zl A5 Y ?_;refine Zh 7 CM V rfl Dg Y ?_;refine BN (Cf (j:=1) HS A4 Y Y Fl)<|Zl A5 Y ?_;refine Zh 7 CM V rfl Dg Y ?_;refine BN (Cf (j:=2) HS A4 Y Y Fl)<|Zl A5 Y ?_;refine Ze (Ah (vs:=[_,_,_]) (cs:=[_,_,_]) HF A4 K1 Y V rfl V rfl V)<|AE fun gr=>Xr [_] Y call157 Y V (Sg gr 0 3 _ _ _ [x.n.a,x.n.b,x.n.c] (LF [x.n.a,x.n.b,x.n.c]) C4 (zH G z)) ?_;refine BN (EH Y Y (by(have O:=De _ (zH G z);simp only [GB,My]at O;rw [Be,Be];omega)))<|AN Y<|Zn [1,4,5] ?_;refine A8<|Zx<|Zg<|Zm Y<|Ya (n:=1) Y Y<|AN Y<|Zn [4,5,1] ?_;refine Ac (e':=[(4,_),(5,_)]) (by exact ⟨i+1,rfl,by omega,by rw [Tq _ hx,Ui z,Sl,Ec];simp only [G0],rfl⟩)
  refine AB<|A8<|Zx<|Zg<|Zm Y<|Ya (n:=1) Y Y<|AN Y<|Zn [4,5,1] ?_;refine Ac (e':=[(4,_),(5,_)]) (by exact ⟨i+1,rfl,by omega,by rw [Tq _ hx,Xp z];simp only [G0],rfl⟩)
 refine Az<|Zt<|Zt<|AU<|BT<|Sk 2 rfl<|AM Y<|Cn rfl results104 Y Y (by exact ⟨by rw [Hx A0];rfl,rfl⟩)
theorem oL(h:D5)(z:h.ok):BB prog 103 #[.agg #[I4 h.p,.string (str h.ch),.string (str h.st)]] [] (.bool true):=by
 obtain ⟨⟨G,h2⟩,I,J⟩:=z;refine Se func103 ntmps103 [0] ?_;intro u R;refine A2<|Ze (Bx #[_,_,_])<|AE fun E=>AF Y<|A2<|Zh 0 Hc V rfl A4 Y<|Zl A5 Y ?_;refine Zv (Fa Y Y)<|Zm Y<|AZ (t:=6) Y V (fun g=>?_) (fun g=>?_);·
  refine Yf 0 Hc V rfl A4 Y<|Yl A5 Y ?_;refine Yg (JB Y Y)<|Sk 2 V ?_;refine AZ (t:=11) Y V (fun m=>?_) (fun m=>?_);·
   refine Yf 1 Hc V rfl F2 Y<|Yl HG Y ?_;refine Yg (Da HM Y)<|Yg (Bg (n:=32) Y Y)<|Sk 2 V ?_;refine AZ (t:=17) Y V (fun y=>?_) (fun y=>?_);·
    refine Yf 2 Hc V rfl F2 Y<|Yl HG Y ?_;refine Yg (Da HM Y)<|Yg (Bg (n:=32) Y Y)<|HR Y Y<|AN Y<|Zn [2] ?_;refine Zx<|AC<|AO rfl results103 Y (by exact ⟨congrArg Value.bool (Cp (by rw [Be];omega)),rfl⟩)
   exfalso;first|omega|(rw [Be]at y;omega)
  exfalso;first|omega|(rw [Be]at m;omega)
 exfalso;first|omega|(rw [Be]at g;omega)
variable{M:List AR}
theorem uX(h:D5)(r:Bz)(st:List UInt8)(G:DJ M (.slice r.q r.cs.length r.cap) r.cs)(hn:Ef h r st):BB prog 50 #[.agg #[I4 h.p,.string (str h.ch),.string (str h.st)],.agg #[I4 r.p,.slice r.q r.cs.length r.cap],.string (str st)] [M] (.tuple #[.agg #[I4 (Fb h r st).p,.string (str (Fb h r st).ch),.string (str (Fb h r st).st)],I4 0]):=by
 have W:=mL;obtain ⟨g,m,X,hp⟩:=id hn;have K:=m.1
 have O:=m.2.1;have U:=OP g
 have I:=g.len;refine Se func50 ntmps50 [0,1,2] ?_;intro u R;refine A2<|Ze (Bx #[_,_,_])<|AE fun Z=>Ze (Bx #[_,_])<|AE fun b2=>Ze (Al Mb #[_,_,_])<|AE fun b3=>CT Y<|A2<|Zo Wh (A7 (cs:=#[_,_,_]) HK Ek Y Wb (by exact AP V)) ?_;refine Xr [_] Y call103 Y V (oL h m) ?_;refine Zv (CR Y)<|Zm Y<|Ae (t:=13) Y V (fun y=>by cases y)<|fun y=>DK Y Wh (A7 (cs:=#[_,_]) J1 Fk Y Wb (by exact AP V)) V rfl ?_;refine Xr [_] Y call74 Y V (NH r.p r.q r.cap r.cs M G) ?_;rw [Cp g];refine Yg (CR Y)<|Sk 2 V ?_;refine Ae (t:=18) Y V (fun z=>by cases z)<|fun z=>Yf 0 G3 V rfl A4 Y<|Yl A5 Y ?_;refine Yf 0 Hc V rfl A4 Y<|Yl A5 Y ?_
 (refine ER Y (Fw Y Y (IntWalk.i64_in _ ?_)) rfl rfl ?_;(focus (omega)))
 refine Yg (ED Y Y)<|Sk 2 V ?_;refine AZ (t:=26) Y V (fun J=>by omega)<|fun J=>Zf Y Y<|Yg (Da HM Y)<|Yg (Cb (n:=32) Y Y)<|H3 Y Y<|Z0<|Zn [2,3,4,6,30] ?_;refine Zx<|Ad Y (fun E=>?_) (fun E=>?_);·
  exfalso;rw [Be]at E;omega
 refine AB<|BT<|Zo Wh (A7 (cs:=#[_,_]) J1 Fk Y Wb (by exact AP V)) ?_;refine Xr [_] Y call104 Y V (VF r.p r.q r.cap r.cs M G g) ?_;refine Sk 4 V<|CT Y<|Au (n:=10) (0::1::0::4::0::28::0::127::255::511::[]) 288 AG AG V<|A1 0 V (AL (off:=0) G3 V rfl A4 Y)<|B6 1 V A5 Y ?_;refine A1 2 V (AL (off:=1) Hc V rfl F2 Y)<|B6 3 V HG Y ?_;refine A1 4 V (AA Y)<|A1 6 V (AA Y)<|Zz (l:=[5])<|C6 [false,true] [(1,(_,_))] V rfl (Zu [_,_] Y call105 Y V (Qq h.ch (Kl r.p r.cs) A0)) ?_ (fun _ _ h=>h.elim) Ar;rintro _ _ ⟨rfl,rfl⟩;refine CA<|A1 7 rfl (BK (vs:=[(0,_),(1,_),(2,_)]) (cs:=#[_,_,_]) Y (AY (pl:=#[(0,1),(1,1),(2,1)]) Mb Hc (fun _=>by kernel_rfl) rfl))<|Yw 8 511 rfl (Ao Ek Y Y (by(simp [Value.oneCell',Value.cells];done)) Wu (by exact Bj rfl) DO Wb (by exact Aw _))<|DA<|A1 9 V (Aq Y)<|Am<|Zn [6,7] ?_;refine Zx<|AC<|Bo V results50 Y Wh (Ai HK Ek Wn (AP V)) Y (by exact ⟨V,V⟩)
def Ep(l:List Bz):Nat->D5
 |0=>⟨0,EK,Eu []⟩
 |i+1=>match l[i]?with
  |some r=>Fb (Ep l i) r (Eu (Bq (l.take (i+1))))
  |none=>Ep l i
def Mq(l:List Bz)(n:Nat):List D5:=(List.range n).map (Ep l)
theorem ZN(l:List Bz)(n:Nat):Mq l (n+1)=Mq l n++[Ep l n]:=by unfold Mq;rw [gA,HD];rfl
theorem Lm{l:List Bz}{i:Nat}{r:Bz}(g:l[i]?=some r):Ep l (i+1)=Fb (Ep l i) r (Eu (Bq (l.take (i+1)))):=by
 rw [Ep,g]
theorem Q8(rs:List AV):(Eu rs).length=32:=FP _
theorem R5(h r:Bs):(OU h r).length=32:=JY _
theorem KA{l:List Bz}(m:Dy l)(z:l.length<=9000):∀i,i<=l.length->(Ep l i).ok/\(Ep l i).p=(i:Int)/\(Ep l i).st=Eu (Bq (l.take i))
 |0,_=>⟨⟨⟨by show(0:Int)<=0;decide,by show(0:Int)<=10000;decide⟩,List.length_replicate,Q8 _⟩,rfl,by rw [Hh];rfl⟩
 |i+1,hi=>by
  obtain ⟨r,g⟩:∃r,l[i]?=some r:=⟨_,Bk A0⟩;have y:r.p=(i:Int)+1:=(m i r g).1.pos
  rw [Lm g];exact ⟨⟨⟨by show 0<=r.p;omega,by show r.p<=10000;omega⟩,R5 _ _,Q8 _⟩,by show r.p=_;rw [y];rfl,rfl⟩
theorem qC{l:List Bz}(y:Dy l)(G:l.length<=9000){i:Nat}{r:Bz}(z:l[i]?=some r){st:Bs}(g:st.length=32):Ef (Ep l i) r st:=by
 have hi:=(D3.1 z).1;obtain ⟨E,h2,_⟩:=KA y G i A0;have m:=(y i r z).1
 exact ⟨m.ok,E,g,by rw [h2];exact m.pos⟩
set_option maxHeartbeats 2000000 in
theorem VI{lv:A3}{l:List Bz}(hl:DD M lv l)(E:Dy l)(gy:l.length<=9000):CJ prog 15 #[lv] [M] (fun w H'=>∃sh,BS 3 67 w (l.length+1) (Ik (Mq l (l.length+1))) sh/\H'=[sh,M]):=by
 have p8:=mL;obtain ⟨pl,cl,rfl,⟨o9,oq⟩,hg⟩:=id hl;refine Se func15 ntmps15 [0] ?_;intro u R;refine A2<|AF Y<|A2<|Zc [] Y call29 Y V (cK) ?_;rintro _ _ ⟨_,⟨sp,rfl,rfl⟩,rfl⟩;refine AF Y<|Bi<|Zb [0,3] ?_;refine C9 (e0:=[]) (H0:=[[(sp,.cells #[.slice none 0 0,I4 0] 138 (0,0))],[]]) (fun e H=>∃(I:Nat),(True)/\e=[(4,I5 I)]/\H=[[(sp,.cells #[.slice none 0 0,I4 0] 138 (0,0))],[],[(I,.cells #[I4 (⟨0,EK,Eu []⟩:D5).p,.string (str (⟨0,EK,Eu []⟩:D5).ch),.string (str (⟨0,EK,Eu []⟩:D5).st)] 67 (0,0))]]) Wp ?hx_1 ?hy_1
 case hx_1=>
  refine Au (n:=7) (0::1::0::4::15::0::63::[]) 105 AG AG V<|A1 2 V (AA Y)<|Zz (l:=[0,3,5])<|C6 [] [] V rfl (Hu (by_:=1) (l:=32) (c:=32) GC (V:Tryz.prog.info? 5=some Tryz.t5) V rfl V rfl Y Y ?_ ?_ ?_) ?hk_2 (fun _ _ h=>h.elim) ?hl_2
  (focus (decide))
  (focus (decide))
  (focus (decide))
  case' hk_2=>
   rintro _ _ ⟨mk,rfl,rfl⟩;refine CA<|Fo 1 V Wh (Dm GC IF HM Y (by exact (show(_=List.map u8v EK)/\EK.length=_ from⟨V,V⟩))) ?_;refine Zz (l:=[3,5])<|C6 [true] [(1,(_,_))] V rfl (Zu [_] Y call49 Y V (Kv sp 0 (.slice none 0 0) [] [] (BX 5 _) AH .nil C4)) ?hk_3 (fun _ _ h=>h.elim) ?hl_3
   case' hk_3=>
    rintro _ _ ⟨rfl,rfl⟩;refine CA<|A1 4 V (BK (vs:=[(1,.string (str EK)),(2,.string (str (Eu [])))]) (cs:=#[I4 0,.string (str EK),.string (str (Eu []))]) Y (AY (pl:=#[(0,1),(1,1),(2,1)]) Mb Hc (fun _=>by kernel_rfl) AG))<|Yz 5 0 63 [1] [true] [(1,(_,_))] V Y V rfl V rfl (Al Mb #[_,_,_])<|AE fun I=>CA<|Yw 6 127 V (Xw Ek #[I4 0,.string (str EK),.string (str (Eu []))])<|DA<|Am<|HC (by exact ⟨I,trivial,V,V⟩)
   case' hl_3=>
    refine C6 [true] [(1,(_,_))] V rfl (Al Mb #[_,_,_]) ?hk_7 (fun _ _ h=>h.elim) ?hl_7
    case' hk_7=>
     rintro _ _ ⟨I,rfl,rfl⟩;refine CA<|Yz 3 4 47 [1] [true] [(1,(_,_))] V Y V rfl V rfl (Zu [_] Y call49 Y V (Kv sp 0 (.slice none 0 0) [] [] (BX 5 _) AH .nil C4)) ?_;rintro _ _ ⟨rfl,rfl⟩;refine ⟨Zk (Ab),?_⟩
    case' hl_7=>
     exact Ar
  case' hl_2=>
   refine C6 [] [] V rfl (Zu [_] Y call49 Y V (Kv sp 0 (.slice none 0 0) [] [] (BX 5 _) AH .nil C4)) ?hk_11 (fun _ _ h=>h.elim) ?hl_11
   case' hk_11=>
    rintro _ _ ⟨rfl,rfl⟩;refine CA<|Zz (l:=[0,5])<|C6 [] [] V rfl (Hu (by_:=1) (l:=32) (c:=32) GC (V:Tryz.prog.info? 5=some Tryz.t5) V rfl V rfl Y Y ?_ ?_ ?_) ?hk_12 (fun _ _ h=>h.elim) ?hl_12
    (focus (decide))
    (focus (decide))
    (focus (decide))
    case' hk_12=>
     rintro _ _ ⟨mk,rfl,rfl⟩;refine CA<|Fo 1 V Wh (Dm GC IF HM Y (by exact (show(_=List.map u8v EK)/\EK.length=_ from⟨V,V⟩))) ?_;refine A1 4 V (BK (vs:=[(1,.string (str EK)),(2,.string (str (Eu [])))]) (cs:=#[I4 0,.string (str EK),.string (str (Eu []))]) Y (AY (pl:=#[(0,1),(1,1),(2,1)]) Mb Hc (fun _=>by kernel_rfl) AG))<|Yz 5 0 63 [1] [true] [(1,(_,_))] V Y V rfl V rfl (Al Mb #[_,_,_])<|AE fun I=>CA<|Yw 6 127 V (Xw Ek #[I4 0,.string (str EK),.string (str (Eu []))])<|DA<|Am<|HC (by exact ⟨I,trivial,V,V⟩)
    case' hl_12=>
     refine C6 [] [] V rfl (Al Mb #[_,_,_]) ?hk_16 (fun _ _ h=>h.elim) ?hl_16
     case' hk_16=>
      rintro _ _ ⟨I,rfl,rfl⟩;refine CA<|Yw 0 45 V (Hu (by_:=1) (l:=32) (c:=32) GC (V:Tryz.prog.info? 5=some Tryz.t5) V rfl V rfl Y Y ?_ ?_ ?_) ?_
      (focus (decide))
      (focus (decide))
      (focus (decide))
      rintro _ _ ⟨mk,rfl,rfl⟩;refine Fo 1 V Wh (Dm GC IF HM Y (by exact (show(_=List.map u8v EK)/\EK.length=_ from⟨V,V⟩))) ?_
     case' hl_16=>
      exact Ar
   case' hl_11=>
    refine C6 [] [] V rfl (Al Mb #[_,_,_]) ?hk_20 (fun _ _ h=>h.elim) ?hl_20
    case' hk_20=>
     rintro _ _ ⟨I,rfl,rfl⟩;refine CA<|Zz (l:=[0,3])<|C6 [] [] V rfl (Hu (by_:=1) (l:=32) (c:=32) GC (V:Tryz.prog.info? 5=some Tryz.t5) V rfl V rfl Y Y ?_ ?_ ?_) ?hk_21 (fun _ _ h=>h.elim) ?hl_21
     (focus (decide))
     (focus (decide))
     (focus (decide))
     case' hk_21=>
      rintro _ _ ⟨mk,rfl,rfl⟩;refine CA<|Fo 1 V Wh (Dm GC IF HM Y (by exact (show(_=List.map u8v EK)/\EK.length=_ from⟨V,V⟩))) ?_;refine Yz 3 4 47 [1] [true] [(1,(_,_))] V Y V rfl V rfl (Zu [_] Y call49 Y V (Kv sp 0 (.slice none 0 0) [] [] (BX 5 _) AH .nil C4)) ?_;rintro _ _ ⟨rfl,rfl⟩;refine ⟨Zk (Ab),?_⟩
     case' hl_21=>
      refine C6 [] [] V rfl (Zu [_] Y call49 Y V (Kv sp 0 (.slice none 0 0) [] [] (BX 5 _) AH .nil C4)) ?hk_25 (fun _ _ h=>h.elim) ?hl_25
      case' hk_25=>
       rintro _ _ ⟨rfl,rfl⟩;refine CA<|Yw 0 45 V (Hu (by_:=1) (l:=32) (c:=32) GC (V:Tryz.prog.info? 5=some Tryz.t5) V rfl V rfl Y Y ?_ ?_ ?_) ?_
       (focus (decide))
       (focus (decide))
       (focus (decide))
       rintro _ _ ⟨mk,rfl,rfl⟩;refine Fo 1 V Wh (Dm GC IF HM Y (by exact (show(_=List.map u8v EK)/\EK.length=_ from⟨V,V⟩))) ?_
      case' hl_25=>
       exact Ar
    case' hl_20=>
     exact Ar
  all_goals
   refine A1 4 V (BK (vs:=[(1,.string (str EK)),(2,.string (str (Eu [])))]) (cs:=#[I4 0,.string (str EK),.string (str (Eu []))]) Y (AY (pl:=#[(0,1),(1,1),(2,1)]) Mb Hc (fun _=>by kernel_rfl) AG))<|Yw 6 127 V (Xw Ek #[I4 0,.string (str EK),.string (str (Eu []))])<|DA<|Am<|HC (by exact ⟨I,trivial,V,V⟩)
 rintro _ _ ⟨I,_,rfl,rfl⟩;refine A2<|Zo Wh (A7 (cs:=#[_,_,_]) HK Ek Y Wb (by exact AP V)) ?_;refine Ze (Ah (vs:=[_]) (cs:=[_,_,_]) Pc Ek Mb Y V rfl V rfl V)<|AE fun W=>CT Y<|A2<|AF Y<|AQ<|Zb [5,6,0,3,4] ?_;refine Av (e0:=[(5,_),(6,_)]) (fun m e H=>∃(i:Nat) (rs:List AV) (h:D5) (w:A3) (sv:List AR) (W:C1) (co:Nat) (so:List AR),m=l.length -i/\(i<=l.length/\rs=Bq (l.take i)/\h=Ep l i/\BS 5 91 w rs.length (Aa rs) sv/\BS 3 67 (.slice W (i+1) co) (i+1) (Ik (Mq l (i+1))) so)/\e=[(5,.slice W (i+1) co),(6,I4 (i:Int))]/\H=[[(sp,.cells #[w,I4 (i:Int)] 138 (0,0))],sv,[(I,.cells #[I4 h.p,.string (str h.ch),.string (str h.st)] 67 (0,0))],so]) (by exact ⟨0,[],⟨0,EK,Eu []⟩,.slice none 0 0,[],some ⟨W,0,none⟩,1,_,rfl,⟨CD _,by rw [Hh];rfl,rfl,BX 5 _,En 3 67 W 1 [I4 (⟨0,EK,Eu []⟩:D5).p,.string (str (⟨0,EK,Eu []⟩:D5).ch),.string (str (⟨0,EK,Eu []⟩:D5).st)] rfl AH⟩,rfl,rfl⟩) Wp ?_;rintro _ _ _ ⟨i,rs,h,w,sv,W,co,so,rfl,⟨hi,cu,hh,l9,d9⟩,rfl,rfl⟩;refine Zq<|A2<|Sk 2 V<|Zv (AJ G4 Y)<|Zv (Ak Y Y)<|A6<|Ad Y (fun kv=>?_) (fun kv=>?_);·
  obtain ⟨r,X⟩:∃r,l[i]?=some r:=⟨_,Bk A0⟩;obtain ⟨Z,g,off,cur,T,zz,rfl,ax,o8,K⟩:=hg i r X;obtain ⟨hA,_⟩:=E i r X;have l8:=hA.pos
  obtain ⟨U,af⟩:=E.rows i A0;rw [<-cu]at hA U af;obtain ⟨cO,bf⟩:=U3 U hA;obtain ⟨y,z⟩:∃y,y=Du rs r.cs:=⟨_,rfl⟩;have G:y=Bq (l.take (i+1)):=by rw [Bt X,FZ,<-cu,z]
  rw [<-z]at cO bf;have bn:∀x∈y,x.ok:=by rw [G];exact E.rowsOk (i+1) A0
  have kz:Ef h r (Eu y):=by rw [hh];exact qC E gy X (Q8 _)
  refine B3<|Zq<|AQ<|A2<|Sk 3 V ?_;refine BN (A9 G4 Fk Y Y Fl)<|Cj (cs:=[(g,.cells cur T zz)]) (by simp [ax]) (A7 (cs:=#[_,_]) J1 Fk Y A0 K) rfl rfl ?_;refine Zc [_,_] Y call30 Y V (Qr sp (i:Int) r.p w rs sv M r.q r.cap r.cs l9 Z U af A0 hA) ?_;rintro _ _ ⟨_,⟨rfl,v2,ek,J,rfl⟩,rfl⟩;rw [<-z]at J;rw [show r.p=((i+1:Nat):Int) by rw [l8];rfl];refine A6<|Zq<|Au (n:=12) (0::0::0::6::14::0::32::127::255::511::511::1023::[]) 2240 AG AG V<|Fo 0 V Wh (A7 (cs:=#[_,_,_]) HK Ek Y Wb (by exact AP V)) ?_;refine A1 1 rfl (AA Y)<|A1 2 rfl (AA Y)<|A1 3 rfl (A9 G4 Fk Y Y Fl)<|CX (b:=g) (x:= .cells cur T zz) (D':=31) 4 rfl rfl rfl (by simp [ax]) (A7 (cs:=#[_,_]) J1 Fk Y A0 K) ?_;refine A1 5 V (AA Y)<|Zz (l:=[6])<|C6 [true,true] [(4,(_,_)),(0,(_,_))] V rfl (Zu [_] Y call49 Y V (Kv sp _ v2 y ek J bf cO bn)) ?_ (fun _ _ h=>h.elim) Ar;rintro _ _ ⟨rfl,rfl⟩;refine ⟨Ii (by simp [*]) (Zk (Ab)),?_⟩;refine Yw 7 255 V (Zu [_,_,_] Y call50 Y V (uX h r (Eu y) Z kz))<|DA<|A1 8 rfl (AA Y)<|A1 9 rfl (Bn Y rfl)<|A1 10 rfl (Bn Y rfl)<|Zz (l:=[11])<|C6 [] [] rfl rfl (Ao Ek Y Y Ft Wu (by exact Bj rfl) DO Wb (by exact Aw _)) ?_ (fun _ _ h=>h.elim) Ar;rintro _ _ ⟨rfl,rfl⟩;refine CA<|Am<|Zn [0,3,4,5,6] ?_;refine Zx<|Zg<|Zm Y<|Zo Wh (A7 (cs:=#[_,_,_]) HK Ek Y Wb (by exact AP V)) ?_;refine Ze (Ah (vs:=[_]) (cs:=[_,_,_]) Pc Ek Mb Y V rfl V rfl V)<|AE fun gb=>Ze (BL (by_:=40) (sz:=3) Pc (V:Tryz.prog.info? 67=some Tryz.t67) V rfl V rfl Y (d9) Y (D7 3 gb 1 1 67 (0,0) [I4 (Fb h r (Eu y)).p,.string (str (Fb h r (Eu y)).ch),.string (str (Fb h r (Eu y)).st)] V) Wo Wo HH A0 A0) ?_;rintro _ _ ⟨mR,O,rfl⟩;obtain ⟨gq,gm,rfl⟩:=O.form;refine AN Y<|A8<|Zx<|Zg<|Zm Y<|Ya (n:=1) Y Y<|AN Y<|DH (e:=[(5,_),(6,_)]) (h:=by exact ⟨i+1,y,Fb h r (Eu y),v2,ek,gq,gm,mR,rfl,⟨by omega,G,by rw [Lm X,<-hh,<-G],J,BJ O rfl (by rw [ZN l (i+1),UQ,Lm X,<-hh,<-G];rfl)⟩,rfl,rfl⟩)
 have ei:i=l.length:=by omega
 subst ei;refine Az<|Zt<|Zt<|AU<|Zx<|B7 Y<|AM Y<|AO V results15 Y (by exact ⟨so,d9,V⟩)
theorem QA(h:D5):BB prog 103 #[.agg #[I4 h.p,.string (str h.ch),.string (str h.st)]] [] (.bool (decide h.ok)):=by
 refine Se func103 ntmps103 [0] ?_;intro u R;refine A2<|Ze (Bx #[_,_,_])<|AE fun G=>AF Y<|A2<|Zh 0 Hc V rfl A4 Y<|Zl A5 Y ?_;refine Zv (Fa Y Y)<|Zm Y<|AZ (t:=6) Y V (fun y=>?_) (fun y=>?_);focus
  refine Yf 0 Hc V rfl A4 Y<|Yl A5 Y ?_;refine Yg (JB Y Y)<|Sk 2 V ?_;refine AZ (t:=11) Y V (fun z=>?_) (fun z=>?_);focus
   refine Yf 1 Hc V rfl F2 Y<|Yl HG Y ?_;refine Yg (Da HM Y)<|Yg (Bg (n:=32) Y Y)<|Sk 2 V ?_;refine AZ (t:=17) Y V (fun E=>?_) (fun E=>?_);refine Yf 2 Hc V rfl F2 Y<|Yl HG Y ?_;refine Yg (Da HM Y)<|Yg (Bg (n:=32) Y Y)<|HR Y Y<|AN Y<|Zn [2] ?_;refine Zx<|AC<|AO V results103 Y (by
    have g:=Be h.ch;have m:=Be h.st
    exact ⟨by exact congrArg Value.bool (decide_eq_decide.2 (by unfold D5.ok;omega)),V⟩)
  rotate_left
  focus
   refine Sk 6 V ?_
 rotate_left 2
 focus
  refine Sk 11 V ?_
 all_goals
  refine Sk 5 V<|AN Y<|Zn [2] ?_;refine Zx<|AC<|AO V results103 Y (by
   have g:=Be h.ch;have m:=Be h.st
   exact ⟨by exact congrArg Value.bool (CC (by unfold D5.ok;omega)).symm,V⟩)
set_option maxHeartbeats 1000000 in
theorem YI(h:D5)(r:Bz)(st:List UInt8)(U:DJ M (.slice r.q r.cs.length r.cap) r.cs):BB prog 50 #[.agg #[I4 h.p,.string (str h.ch),.string (str h.st)],.agg #[I4 r.p,.slice r.q r.cs.length r.cap],.string (str st)] [M] (.tuple #[.agg #[I4 (Eo h r st).1.p,.string (str (Eo h r st).1.ch),.string (str (Eo h r st).1.st)],I4 (Eo h r st).2]):=by
 have ax:=mL;have es:=Be st
 refine Se func50 ntmps50 [0,1,2] ?_;intro u R;refine A2<|Ze (Bx #[_,_,_])<|AE fun b1=>Ze (Bx #[_,_])<|AE fun b2=>Ze (Al Mb #[_,_,_])<|AE fun b3=>CT Y<|A2<|Zo Wh (A7 (cs:=#[_,_,_]) HK Ek Y (by exact B4 _) (by exact AP V)) ?_;refine Xr [_] Y call103 Y V (QA h) ?_;refine Zv (Bp Y)<|Zm Y<|Ae (t:=13) Y V (fun E=>?_) (fun E=>?_);focus
  have g:¬Ef h r st:=fun y=>(show¬h.ok by simpa using E) y.2.1;refine Sk 17 V<|Z0<|Zn [2,3,4,6,30] ?_;refine Zx<|BV Y ?_
 rotate_left
 focus
  have J:h.ok:=by simpa using E
  have X:=J.1;refine DK Y Wh (A7 (cs:=#[_,_]) J1 Fk Y (by exact B4 _) (by exact AP V)) V rfl ?_;refine Xr [_] Y call74 Y V (NH r.p r.q r.cap r.cs M U) ?_;refine Yg (Bp Y)<|Sk 2 V ?_;refine Ae (t:=18) Y V (fun G=>?_) (fun G=>?_);focus
   have g:¬Ef h r st:=fun y=>(show¬Es r.p r.cs by simpa using G) y.1;refine Sk 12 V<|Z0<|Zn [2,3,4,6,30] ?_;refine Zx<|BV Y ?_
  rotate_left
  focus
   have m:Es r.p r.cs:=by simpa using G
   have af:=OP m;have Z:=J.2.1
   have W:=m.len;refine Yf 0 G3 V rfl A4 Y<|Yl A5 Y ?_;refine Yf 0 Hc V rfl A4 Y<|Yl A5 Y ?_
   (refine ER Y (Fw Y Y (IntWalk.i64_in _ ?_)) rfl rfl ?_;(focus (omega)))
   refine Yg (ED Y Y)<|Sk 2 V ?_;refine AZ (t:=26) Y V (fun I=>?_) (fun I=>?_);focus
    have g:¬Ef h r st:=fun y=>I y.2.2.2;refine Sk 4 V<|Z0<|Zn [2,3,4,6,30] ?_;refine Zx<|BV Y ?_
   rotate_left
   focus
    refine Zf Y Y<|Yg (Da HM Y)<|Yg (Cb (n:=32) Y Y)<|H3 Y Y<|Z0<|Zn [2,3,4,6,30] ?_;refine Zx<|Ad Y (fun O=>?_) (fun O=>?_);focus
     have g:¬Ef h r st:=fun y=>O (by have:=y.2.2.1;omega)
    rotate_left
    have K:Ef h r st:=⟨m,J,by omega,Fi.1 I⟩;have z:Eo h r st=(Fb h r st,0):=B2 K
    refine AB<|BT<|Zo Wh (A7 (cs:=#[_,_]) J1 Fk Y (by exact B4 _) (by exact AP V)) ?_;refine Xr [_] Y call104 Y V (VF r.p r.q r.cap r.cs M U m) ?_;refine Sk 4 V<|CT Y<|Au (n:=10) (0::1::0::4::0::28::0::127::255::511::[]) 288 AG AG V<|A1 0 V (AL (off:=0) G3 V rfl A4 Y)<|B6 1 V A5 Y ?_;refine A1 2 V (AL (off:=1) Hc V rfl F2 Y)<|B6 3 V HG Y ?_;refine A1 4 V (AA Y)<|A1 6 V (AA Y)<|Zz (l:=[5])<|C6 [false,true] [(1,(_,_))] V rfl (Zu [_,_] Y call105 Y V (Qq h.ch (Kl r.p r.cs) A0)) ?_ (fun _ _ h=>h.elim) Ar;rintro _ _ ⟨rfl,rfl⟩;refine CA<|A1 7 rfl (BK (vs:=[(0,_),(1,_),(2,_)]) (cs:=#[_,_,_]) Y (AY (pl:=#[(0,1),(1,1),(2,1)]) Mb Hc (fun _=>by kernel_rfl) rfl))<|Yw 8 511 rfl (Ao Ek Y Y (by(simp [Value.oneCell',Value.cells];done)) Wu (by exact Bj rfl) DO AH (by exact Aw _))<|DA<|A1 9 V (Aq Y)<|Am<|Zn [6,7] ?_;refine Zx<|AC<|Bo rfl results50 Y Wh (Ai HK Ek Wn (AP rfl)) Y (by exact ⟨by rw [z];rfl,rfl⟩)
 all_goals
  refine A2<|Zv (BK (vs:=[]) (cs:=#[_,_,_]) Y (AY (pl:=#[(0,1),(1,1),(2,1)]) Mb Hc (fun _=>by kernel_rfl) rfl))<|Xe (Ao Ek Y Y Ft Wu (by exact Bj rfl) DO AH (by exact Aw _)) ?_;refine AM Y<|Zt<|Bo V results50 Y Wh (Ai HK Ek Wn (AP V)) Y (by
   have z:Eo h r st=(⟨0,[],[]⟩,90):=Ax g;exact ⟨by rw [z];rfl,rfl⟩)
set_option maxHeartbeats 1000000 in
theorem bu(a b:D5){lv:A3}{l:List Bz}(hl:DD M lv l):BB prog 63 #[.agg #[I4 a.p,.string (str a.ch),.string (str a.st)],lv,.agg #[I4 b.p,.string (str b.ch),.string (str b.st)]] [M] (.bool (decide (FW a l b))):=by
 have d9:=mL;obtain ⟨pl,cl,rfl,⟨cO,cu⟩,hg⟩:=id hl;refine Se func63 ntmps63 [0,1,2] ?_;intro u R;refine A2<|Ze (Bx #[_,_,_])<|AE fun ba=>Ze (Bx #[_,_,_])<|AE fun bb=>CT Y<|A2<|Zo Wh (A7 (cs:=#[_,_,_]) HK Ek Y (by exact B4 _) (by exact AP V)) ?_;refine Xr [_] Y call103 Y V (QA a) ?_;refine Zv (Bp Y)<|Zm Y<|Ae (t:=13) Y V (fun X=>?_) (fun X=>?_);focus
  have E:¬FW a l b:=fun z=>(show¬a.ok by simpa using X) z.1;refine Sk 4 V<|A6<|BV Y ?_
 rotate_left
 focus
  have ha:a.ok:=by simpa using X
  refine DK Y Wh (A7 (cs:=#[_,_,_]) HK Ek Y (by exact B4 _) (by exact AP V)) V rfl ?_;refine Xr [_] Y call103 Y V (QA b) ?_;refine Yg (Bp Y)<|H3 Y Y<|A6<|Af Y (fun h2=>?_) (fun h2=>?_);focus
   have E:¬FW a l b:=fun z=>(show¬b.ok by simpa using h2) z.2.1
  rotate_left
  focus
   have hb:b.ok:=by simpa using h2
   refine B3<|C0 Y<|Zv (AJ G4 Y)<|Zv (Bg (n:=0) Y Y)<|Z0<|Zn [1,3,5,20] ?_;refine Zx<|Ad Y (fun h3=>?_) (fun h3=>?_);·
    have K:l=[]:=N3 A0;refine A2<|Zo Wh (A7 (cs:=#[_,_,_]) HK Ek Y (by exact B4 _) (by exact AP V)) ?_;refine Zo Wh (A7 (cs:=#[_,_,_]) HK Ek Y (by exact B4 _) (by exact AP V)) ?_;refine Zv (X5 AG Y Y (eqH a b))<|AM Y<|Zt<|AO rfl results63 Y (by exact ⟨congrArg Value.bool (decide_eq_decide.2 ⟨fun h=>⟨ha,hb,by rw [K,h];rfl⟩,fun h=>by have I:=h.2.2;rw [K]at I;injection I⟩),rfl⟩)
   refine B3<|Zq<|A2<|AF Y<|AQ<|Zb [7,1,3,5] ?_;refine Av (e0:=[(7,_)]) (fun m e H=>∃(i:Nat) (h:D5),m=l.length -i/\(i<=l.length/\IY b.st a (l.take i)=some h)/\e=[(7,I4 (i:Int))]/\H=[[(ba,.cells #[I4 h.p,.string (str h.ch),.string (str h.st)] 67 (0,0))]]) (by exact ⟨0,a,rfl,⟨CD _,by rw [Hh];rfl⟩,rfl,rfl⟩) Wp ?_;rintro _ _ _ ⟨i,h,rfl,⟨hi,U⟩,rfl,rfl⟩;refine Zq<|A2<|Sk 2 V<|Zv (AJ G4 Y)<|Zv (Ak Y Y)<|A6<|Ad Y (fun Z=>?_) (fun Z=>?_);·
    obtain ⟨r,hr⟩:∃r,l[i]?=some r:=⟨_,Bk A0⟩;obtain ⟨O,g,off,cur,T,zz,rfl,af,bf,J⟩:=hg i r hr;refine B3<|Zq<|AQ<|Zb [1,3,5,7] ?_;refine C9 (e0:=[]) (H0:=[]) (fun e H=>∃(G:Nat),(True)/\e=[(8,I5 G),(9,I4 (Eo h r b.st).2)]/\H=[[(G,.cells #[I4 (Eo h r b.st).1.p,.string (str (Eo h r b.st).1.ch),.string (str (Eo h r b.st).1.st)] 67 (0,0))]]) Wp ?hx_5 ?hy_5
    case hx_5=>
     refine Au (n:=14) (0::0::0::6::14::0::32::127::255::511::511::0::3071::8191::[]) 6272 AG AG V<|Fo 0 V Wh (A7 (cs:=#[_,_,_]) HK Ek Y (by exact B4 _) (by exact AP V)) ?_;refine A1 1 V (AA Y)<|A1 2 V (AA Y)<|A1 3 V (A9 G4 Fk Y Y A0)<|CX (D':=31) 4 V rfl V (GK Wo (af)) (A7 (cs:=#[_,_]) J1 Fk Y A0 (by exact J)) ?_;refine A1 5 V (AL (off:=2) Hc V rfl F2 Y)<|B6 6 V HG Y ?_;refine Zz (l:=[7,11])<|C6 [false,false,false] [] V rfl (Zu [_,_,_] Y call50 Y V (YI h r b.st O)) ?hk_6 (fun _ _ h=>h.elim) ?hl_6
     case' hk_6=>
      rintro _ _ ⟨rfl,rfl⟩;refine CA<|A1 8 V (AA Y)<|A1 9 V (Bn Y V)<|A1 10 V (Bn Y V)<|Zz (l:=[11])<|C6 [] [] V rfl (Al Mb #[_,_,_]) ?hk_7 (fun _ _ h=>h.elim) ?hl_7
      case' hk_7=>
       rintro _ _ ⟨G,rfl,rfl⟩;refine CA<|Yz 12 3071 8191 [] [] [] V Y V rfl V rfl (Xw Ek #[I4 (Eo h r b.st).1.p,.string (str (Eo h r b.st).1.ch),.string (str (Eo h r b.st).1.st)]) ?_
      case' hl_7=>
       exact Ar
     case' hl_6=>
      refine C6 [true,true,true] [(6,(_,_)),(4,(_,_)),(0,(_,_))] V rfl (Al Mb #[_,_,_]) ?hk_10 (fun _ _ h=>h.elim) ?hl_10
      case' hk_10=>
       rintro _ _ ⟨G,rfl,rfl⟩;refine ⟨Zk (Ii (by simp [*]) (Zk (Ab))),?_⟩;refine Yw 7 2303 V (Zu [_,_,_] Y call50 Y V (YI h r b.st O))<|DA<|A1 8 V (AA Y)<|A1 9 V (Bn Y V)<|A1 10 V (Bn Y V)<|Zz (l:=[12])<|C6 [] [] V rfl (Xw Ek #[I4 (Eo h r b.st).1.p,.string (str (Eo h r b.st).1.ch),.string (str (Eo h r b.st).1.st)]) ?hk_12 (fun _ _ h=>h.elim) ?hl_12
       case' hl_12=>
        exact Ar
      case' hl_10=>
       exact Ar
     all_goals
      rintro _ _ ⟨rfl,rfl⟩;refine CA<|A1 13 V (Aq Y)<|Am<|HC (by exact ⟨G,trivial,V,V⟩)
    rintro _ _ ⟨G,_,rfl,rfl⟩;refine C0 Y<|Zv (ED Y Y)<|A6<|Ad Y (fun y=>?_) (fun y=>?_);·
     have hn:¬Ef h r b.st:=fun z=>by unfold Eo at y;rw [B2 z]at y;exact y rfl
     have W:IY b.st a l=none:=Rk (i:=i+1) (by rw [Ju U hr,Ax hn]);have E:¬FW a l b:=fun z=>by rw [z.2.2]at W;cases W
     refine A2<|AM Y<|Zt<|AX<|Zt<|Zt<|AX<|Zt<|AO rfl results63 Y (by exact ⟨by rw [CC E],rfl⟩)
    have hn:Ef h r b.st:=Fi.1 fun z=>by unfold Eo at y;rw [Ax z]at y;exact y AH
    have ax:Eo h r b.st=(Fb h r b.st,0):=B2 hn;rw [ax];refine B3<|Zg<|Zo Wh (A7 (cs:=#[_,_,_]) HK Ek Y (by exact B4 _) (by exact AP V)) ?_;refine Xe (Xw Ek #[I4 (Fb h r b.st).p,.string (str (Fb h r b.st).ch),.string (str (Fb h r b.st).st)]) ?_;refine Z0<|A8<|Zx<|Zg<|Zm Y<|Ya (n:=1) Y Y<|AN Y<|DH (e:=[(7,_)]) (h:=by exact ⟨i+1,Fb h r b.st,rfl,⟨by omega,by rw [Ju U hr,B2 hn]⟩,rfl,rfl⟩)
   have ei:i=l.length:=by omega
   subst ei;rw [HJ]at U;refine Az<|Zt<|Zt<|AU<|BT<|Zo Wh (A7 (cs:=#[_,_,_]) HK Ek Y (by exact B4 _) (by exact AP V)) ?_;refine Zo Wh (A7 (cs:=#[_,_,_]) HK Ek Y (by exact B4 _) (by exact AP V)) ?_;refine Zv (X5 AG Y Y (eqH h b))<|AM Y<|AO rfl results63 Y (by exact ⟨congrArg Value.bool (decide_eq_decide.2 ⟨fun e=>⟨ha,hb,by rw [U,e]⟩,fun z=>by have I:=z.2.2;rw [U]at I;injection I⟩),rfl⟩)
 all_goals
  refine A2<|AM Y<|Zt<|AO rfl results63 Y (by exact ⟨by rw [CC E],rfl⟩)
variable{x:RP}{l:List RP}
theorem Jl{s:Int×Int×Int×Int}(h:¬(x.scan=s/\Eb x)):Gz s (x::l)=none:=Ax h
theorem VB{q:QM}:∀{rs:List AV} {l:List RP},rs.length=l.length->(∀(j:Nat) (r:AV) (y:RP),rs[j]?=some r->l[j]?=some y->y.scan=IL q r/\Eb y)->DR q rs l=some (l.flatMap Ci,[])
 |[],[],_,_=>rfl
 |[],_::_,h,_=>by simp at h
 |_::_,[],h,_=>by simp at h
 |r::rs,y::l,h,hall=>by
  have h0:=hall 0 r y rfl rfl;unfold DR;rw [Gh h0.1 h0.2,I0];simp only;rw [VB (q:=q) (rs:=rs) (l:=l) (by simpa using h) (fun j m z g h2=>hall (j+1) m z g h2)];rfl
theorem VA{q:QM}:∀{j:Nat} {rs:List AV} {l:List RP} {r:AV} {y:RP},rs[j]?=some r->l[j]?=some y->¬(y.scan=IL q r/\Eb y)->DR q rs l=none
 |_,[],_,_,_,h,_,_=>by simp at h
 |_,_::_,[],_,_,_,h,_=>by simp at h
 |0,r::rs,y::l,_,_,h1,h2,h3=>by
  injection h1 with h1
  injection h2 with h2
  subst h1 h2;unfold DR;rw [Jl h3];rfl
 |j+1,r::rs,y::l,r',y',h1,h2,h3=>by
  unfold DR;by_cases h0:y.scan=IL q r/\Eb y
  · rw [Gh h0.1 h0.2,I0]
    simp only;rw [VA (j:=j) (rs:=rs) (l:=l) (r:=r') (y:=y') h1 h2 h3];rfl
  · rw [Jl h0];rfl
theorem V9{q:QM}:∀{rs:List AV} {l:List RP} {b:List AV×List RP},DR q rs l=some b->l.length=rs.length+b.2.length
 |[],l,b,h=>by
  unfold DR at h;injection h with h
  subst h;simp
 |r::rs,l,b,h=>by
  unfold DR at h;cases h1:Gz (IL q r) l with
  |none=>rw [h1]at h;cases h
  |some a=>
   rw [h1,I0]at h;obtain ⟨x,hx,_⟩:=K5 h1;cases h2:DR q rs a.2 with
   |none=>rw [h2]at h;cases h
   |some c=>
    rw [h2]at h;injection h with h
    have g:=V9 h2;rw [<-h,hx,GB,GB,g];simp only;omega
variable{q:QM}
theorem jX(h:¬BH q)(L:List RP):Bu q L=none:=by unfold Bu;rw [Ax h]
theorem jV:Bu q []=none:=by
 unfold Bu;split;· rfl
 · rfl
theorem jZ(h:¬(x.scan=JS q/\Eb x)):Bu q (x::l)=none:=by
 unfold Bu;split;· rw [Jl h];rfl
 · rfl
theorem jY(h:¬(Ci x).length<=100):Bu q (x::l)=none:=by
 unfold Bu;split
 · by_cases h0:x.scan=JS q/\Eb x
   · rw [Gh h0.1 h0.2,I0,Ax h]
   · rw [Jl h0];rfl
 · rfl
theorem jW(h:l.length≠if q.kd=7 then(Ci x).length else 0):Bu q (x::l)=none:=by
 unfold Bu;split
 · by_cases h0:x.scan=JS q/\Eb x
   · rw [Gh h0.1 h0.2,I0]
     simp only;split
     · split
       · rename_i h7
         rw [B2 h7]at h;cases h2:DR q (Ci x) l with
         |none=>rfl
         |some b=>
          rw [I0,Ax];intro g;have m:=V9 h2
          rw [g]at m;exact h m
       · rename_i h7
         rw [Ax h7]at h;rw [I0,Ax];intro g;rw [show l=[] from g]at h;exact h V
     · rfl
   · rw [Jl h0];rfl
 · rfl
theorem jU{j:Nat}{r:AV}{y:RP}(z:q.kd=7)(m:(Ci x)[j]?=some r)(hy:l[j]?=some y)(h:¬(y.scan=IL q r/\Eb y)):Bu q (x::l)=none:=by
 unfold Bu;split
 · by_cases h0:x.scan=JS q/\Eb x
   · rw [Gh h0.1 h0.2,I0]
     simp only;by_cases g:(Ci x).length<=100;· rw [B2 g,VA m hy h];rfl
     · rw [Ax g]
   · rw [Jl h0];rfl
 · rfl
theorem jT(G:BH q)(h0:x.scan=JS q/\Eb x)(E:(Ci x).length<=100)(z:l.length=if q.kd=7 then(Ci x).length else 0)(m:q.kd=7->∀(j:Nat) (r:AV) (y:RP),(Ci x)[j]?=some r->l[j]?=some y->y.scan=IL q r/\Eb y):Bu q (x::l)=some (Cc q (Ci x) (l.flatMap Ci)):=by
 unfold Bu;rw [B2 G,Gh h0.1 h0.2,I0];simp only;rw [B2 E];by_cases g:q.kd=7
 · rw [B2 g]at z
   rw [B2 g,VB z.symm (m g),I0,B2 rfl]
 · rw [Ax g]at z
   rw [N3 z,Ax g,I0,B2 rfl];rfl
theorem mw{b:Bool}(h:(!b)=true):b=false:=by cases b;rfl;cases h
theorem mz{b:Bool}(h:(!b)=false):b=true:=by cases b;cases h;rfl
theorem SQ(x:RP):(Ci x).length<=2000/\∀r∈Ci x,r.ok:=by
 by_cases h:Eb x
 · exact K4 h
 · rw [bV h];exact ⟨CD _,fun r g=>by cases g⟩
theorem ik{k:Nat}{y:RP}(h:l[k]?=some y):(l.take (k+1)).flatMap Ci=(l.take k).flatMap Ci++Ci y:=by rw [Bt h,O2,ij]
set_option maxHeartbeats 2000000 in
theorem VH{v:A3}{L:List RP}(hL:Et M v L)(q:QM):CJ prog 17 #[.agg q.Ax4,v] [M] (fun w H'=>∃rv s,w= .tuple #[.agg #[rv,I4 ((Bu q L).getD CB.none).val,.bool ((Bu q L).getD CB.none).fnd],.bool (Bu q L).isSome]/\CZ s rv ((Bu q L).getD CB.none).rows/\H'=[s,M]):=by
 have sj:=mL;obtain ⟨pv,cv,rfl,qz,qy⟩:=hL.form;refine Se func17 ntmps17 [0,1] ?_;intro u R;refine A2<|Ze (Bx q.Ax4)<|AE fun bq=>Ze (Ff GO (cs:=#[.slice none 0 0,I4 0,.bool false]) AG)<|AE fun bo=>AF Y<|A2<|Zo Wh (A7 (cs:=#[_,_,_,_,_,_,_]) DE CN Y (by exact B4 _) (by exact AP V)) ?_;refine Xr [_] Y call37 Y V (P8 q) ?_;refine AF Y<|C0 Y<|Zv (Bp Y)<|Zm Y<|Ae (t:=19) Y V (fun E=>?_) (fun E=>?_);focus
  have hn:Bu q L=none:=jX (I2 E) L;refine Sk 4 V<|Z0<|Zn [1,2,4,23] ?_;refine Zx<|BV Y ?_
 rotate_left
 focus
  have hq:BH q:=Fi.1 (NX E);refine Zf Y Y<|Yg (AJ Ds Y)<|Yg (Bg (n:=0) Y Y)<|H3 Y Y<|Z0<|Zn [1,2,4,23] ?_;refine Zx<|Ad Y (fun h2=>?_) (fun h2=>?_);focus
   have hn:Bu q L=none:=by rw [N3 (show L.length=0 by omega)];exact jV
  rotate_left
  focus
   obtain ⟨x,l,g⟩:∃x l,L=x::l:=by
    match L,h2 with
    |[],h2=>exact absurd rfl h2
    |x::l,_=>exact ⟨x,l,rfl⟩
   have d9:L.length=l.length+1:=by rw [g];rfl
   have o9:L[0]?=some x:=by rw [g];rfl
   obtain ⟨z,hz,oq,g0,q9,p9,T0,vo,bn,kz,o8,bf⟩:=O3 hL o9;simp only [Wf,RT,Dd]at o8 bf;rw [bn];refine B3<|Zq<|Au (n:=17) (0::1::3::0::8::0::32::0::128::0::512::2047::4095::8191::8191::16383::65535::[]) 2048 AG AG V<|A1 0 V (AA Y)<|A1 1 V (A9 (j:=0) Ds DM Y Y A0)<|CX (D':=7) 2 V rfl V (GK Wo (kz)) (A7 (cs:=#[_,_,_,_,_,_,_,_,_]) It DM Y A0 (by exact bf)) ?_;refine A1 3 V (AL (off:=1) CH V rfl A4 Y)<|B6 4 V A5 Y ?_;refine A1 5 V (AL (off:=2) CH V rfl A4 Y)<|B6 6 V A5 Y ?_;refine A1 7 V (AL (off:=3) CH V rfl A4 Y)<|B6 8 V A5 Y ?_;refine A1 9 V (AL (off:=4) CH V rfl A4 Y)<|B6 10 V A5 Y ?_;refine Zz (l:=[11])<|C6 [false,false,false,false,false] [] V rfl (Zw [_,_,_,_,_] Y call56 Y V (VJ oq q.tb q.cl q.lo q.hi)) ?hk_3 DC ?hl_3
   case' hk_3=>
    rintro _ _ ⟨_,⟨vr,sr,rfl,X,rfl⟩,rfl⟩;refine ⟨Ab,?_⟩;rw [hz]at X;rw [hz];obtain ⟨gr,qw,rfl⟩:=X.form;obtain ⟨pz,Z⟩:=SQ x;refine A1 12 V (AA Y)<|A1 13 V (Bn Y V)<|A1 14 V (Bn Y V)<|A1 15 V (Aq Y)<|A1 16 V (Aq Y)<|Am<|Zn [1,2,4,7,8] ?_;refine BT<|AF Y<|Zb [9,1,2,4,7,8] ?_;refine C9 (e0:=[(9,_)]) (H0:=[]) (fun e H=>(True)/\e=[(9,I4 ((1+(if q.kd=7 then(Ci x).length else 0:Nat):Nat):Int))]/\H=[]) Wp ?hx_4 ?hy_4
    case' hx_4=>
     refine A2<|Zh 0 CH V rfl A4 Y<|Zl A5 Y ?_;refine Zv (Bd Y Y)<|A6<|Ad Y (fun k7=>?_) (fun k7=>?_);·
      refine Zg<|Zm Y<|Zv (AJ B0 Y)<|Ya (m:=1) Y Y<|AN Y<|Zn [9,1,2,4,7,8] ?_;refine BD (e':=[(9,_)]) (by(have e9:(if q.kd=7 then(Ci x).length else 0:Nat)=(Ci x).length:=B2 k7;exact ⟨trivial,by rw [e9],rfl⟩))
     refine AB<|Zn [9,1,2,4,7,8] ?_;refine BD (e':=[(9,_)]) (by(have e9:(if q.kd=7 then(Ci x).length else 0:Nat)=0:=Ax k7;exact ⟨trivial,by rw [e9];rfl,rfl⟩))
    case' hy_4=>
     rintro _ _ ⟨_,rfl,rfl⟩;refine C0 Y<|Zv (Bp Y)<|Zm Y<|Ae (t:=48) Y V (fun h3=>?_) (fun h3=>?_);focus
      have hn:Bu q L=none:=by rw [g];exact jZ (I2 h3)
      refine Sk 10 V<|Z0<|Zn [1,2,4,7,58] ?_;refine Zx<|BV Y ?_
     rotate_left
     focus
      have hP:x.scan=JS q/\Eb x:=Fi.1 (NX h3);refine Zf Y Y<|Yg (AJ B0 Y)<|Yg (CW (n:=100) Y Y)<|Sk 2 V ?_;refine AZ (t:=53) Y V (fun h4=>?_) (fun h4=>?_);focus
       have hn:Bu q L=none:=by rw [g];exact jY A0
       refine Sk 5 V<|Z0<|Zn [1,2,4,7,58] ?_;refine Zx<|BV Y ?_
      rotate_left
      focus
       refine Zf Y Y<|Yg (AJ Ds Y)<|Zf Y Y<|Yg (Cb Y Y)<|H3 Y Y<|Z0<|Zn [1,2,4,7,58] ?_;refine Zx<|Ad Y (fun h5=>?_) (fun h5=>?_);focus
        have hn:Bu q L=none:=by rw [g];exact jW (fun h=>h5 (by rw [d9,h];push_cast;omega))
       rotate_left
       have G:l.length=(if q.kd=7 then(Ci x).length else 0:Nat):=by omega
       have ax:=Ca X A0;refine AB<|BT<|CT Y<|A2<|AF Y<|AQ<|Bi<|Zb [10,11,1,2,4,7] ?_;refine Av (e0:=[(10,_),(11,_)]) (fun m e H=>∃(k:Nat) (ov:A3) (so:List AR),m=l.length -k/\(k<=l.length/\BS 5 91 ov ((l.take k).flatMap Ci).length (Aa ((l.take k).flatMap Ci)) so/\(∀(j:Nat) (r:AV) (y:RP),j<k->(Ci x)[j]?=some r->l[j]?=some y->y.scan=IL q r/\Eb y)/\((l.take k).flatMap Ci).length<=2000*k)/\e=[(10,ov),(11,I4 ((k+1:Nat):Int))]/\H=[so]) (by exact ⟨0,.slice none 0 0,[],V,⟨CD _,BX 5 _,fun j r y hj=>absurd hj (gC j),CD _⟩,V,V⟩) Wp ?_;rintro _ _ _ ⟨k,ov,so,rfl,⟨hk,hO,J,lv⟩,rfl,rfl⟩;obtain ⟨op,oc,rfl⟩:=hO.form;refine Zq<|A2<|Sk 2 V<|Zv (AJ Ds Y)<|Zv (Ak Y Y)<|A6<|Ad Y (fun kv=>?_) (fun kv=>?_);·
        have h7:q.kd=7:=Fi.1 fun h=>by rw [Ax h]at G;omega
        rw [B2 h7]at G;obtain ⟨r,hr⟩:∃r,(Ci x)[k]?=some r:=⟨_,Bk A0⟩;obtain ⟨y,hy⟩:∃y,l[k]?=some y:=⟨_,Bk A0⟩;obtain ⟨z2,cu,cO,g2,qa,pg,T2,vw,I,l8,sw,gm⟩:=O3 hL (i:=k+1) (x:=y) (by rw [g];exact hy);rw [bn]at I;injection I with I
        injection I with e1 e2 _
        subst e1 e2;obtain ⟨g3,qb,pq,T3,vz,mR,l9,sO,gq⟩:=KP ax hr;rw [mR];obtain ⟨tT,_⟩:=SQ y;refine B3<|Zq<|AQ<|Zq<|Au (n:=9) (0::0::2::7::15::0::32::127::255::[]) 128 AG AG V<|A1 0 V (AA Y)<|A1 1 V (AA Y) ?_
        (refine Dr (D':=7) 2 (C8 (n:=1) Y Y ?_ ?_) ?_;(focus (omega));(focus (omega)))
        refine A1 3 V (A9 B0 AW Y Y A0)<|CX (D':=31) 4 V rfl V (GK Wo (l9)) (A7 (cs:=r.Ax3) C5 AW Y A0 (by exact gq)) ?_;refine A1 5 V (AL (off:=5) CH V rfl A4 Y)<|B6 6 V A5 Y ?_;refine Yw 7 255 V (Zu [_,_] Y Q2 Y V (Lb r (jE hq)))<|DA<|A1 8 V (Aq Y)<|Am<|Zn [1,2,4,7,10,11,12] ?_;refine Zx<|Zq<|Au (n:=14) (0::0::3::7::0::16::0::0::255::511::1023::1023::2047::8191::[]) 256 AG AG V<|A1 0 V (AA Y)<|A1 1 V (AA Y)<|A1 2 V (A9 Ds DM Y Y A0)<|CX (D':=15) 3 V rfl V (GK Wo (l8)) (A7 (cs:=#[_,_,_,_,_,_,_,_,_]) It DM Y A0 (by exact gm)) ?_;refine A1 4 V (AL (off:=6) CH V rfl A4 Y)<|B6 5 V A5 Y ?_;refine A1 6 V (AA Y)<|A1 7 V (AA Y)<|Zz (l:=[8])<|C6 [false,false] [] V rfl (Zw [_,_,_,_,_] Y call56 Y V (VJ cO q.ot 0 (Bh r q.bq) (Bh r q.bq))) ?_ DC Ar;rintro _ _ ⟨_,⟨v5,s5,rfl,U,rfl⟩,rfl⟩;refine ⟨Ab,?_⟩;rw [cu]at U;rw [cu];obtain ⟨g5,c5,rfl⟩:=U.form;refine A1 9 V (AA Y)<|A1 10 V (Bn Y V)<|A1 11 V (Bn Y V)<|A1 12 V (Aq Y)<|A1 13 V (Aq Y)<|Am<|Zn [1,2,4,7,10,11,13,14] ?_;refine Zx<|C0 Y<|Zv (Bp Y)<|A6<|Af Y (fun h6=>?_) (fun h6=>?_);·
         have hn:Bu q L=none:=by rw [g];exact jU h7 hr hy (I2 h6)
         refine Zq<|Bi<|Zg<|Zv (BK (vs:=[]) (cs:=#[_,_,_]) Y (AY (pl:=#[(0,1),(1,1),(2,1)]) GO Cd (fun _=>by kernel_rfl) rfl))<|Xe (Ao BE Y Y Ft Wu (by exact Bj rfl) DO AH (by exact Aw _)) ?_;refine AM Y<|Zt<|AX<|Zt<|Zt<|AX<|Zt<|Bo rfl results17 Y Wh (Ai D0 BE Wn (AP rfl)) Y (by exact ⟨.slice none 0 0,[],by rw [hn];rfl,by rw [hn];exact Jk _,rfl⟩)
        have W:y.scan=IL q r/\Eb y:=Fi.1 (NX h6);refine B3<|Zg<|Sk 2 V ?_;refine Ze (BL (by_:=40) (sz:=5) B0 (V:Tryz.prog.info? 91=some Tryz.t91) V rfl V rfl Y (hO) Y (JW U) Wo Wo (by exact CK _) A0 A0) ?_;rintro _ _ ⟨p8,K,rfl⟩;obtain ⟨qx,qo,rfl⟩:=K.form;refine AN Y<|A8<|Zx<|Zg<|Zm Y<|Ya (n:=1) Y Y<|AN Y<|Zn [10,11,1,2,4,7] ?_;refine Ac (e':=[(10,_),(11,_)]) (by
         exact ⟨k+1,_,p8,rfl,⟨by omega,by rw [ik hy];exact BJ K (by rw [C7]) (by rw [BR]),fun j r9 y9 hj E h2=>by
          rcases FA j k with h9|h9
          · exact J j r9 y9 h9 E h2
          · rw [show j=k by omega]at E h2
            rw [hr]at E;rw [hy]at h2;injection E with E;injection h2 with h2
            rw [<-E,<-h2];exact W,by rw [ik hy,C7];omega⟩,rfl,rfl⟩)
       have ek:l.take k=l:=Hx A0;rw [ek]at hO lv⊢;have gy:l.length<=2000:=by rw [G];split<;>omega
       have O:Bu q L=some (Cc q (Ci x) (l.flatMap Ci)):=by rw [g];exact jT hq hP A0 G fun _ j r y E h2=>J j r y (by have:=(D3.1 h2).1;omega) E h2
       refine Az<|Zt<|Zt<|AU<|Zx<|Zq<|ES (s1:=sr) (s2:=so) Wo Wo ?_;refine Zg<|Zo Wh (A7 (cs:=q.Ax4) DE CN Y (by exact B4 _) (by exact AP V)) ?_;refine Sk 2 V<|Zc [_,_,_] Y call57 Y V (uf (ax.mono fun c hc=>HE _ hc) ((Ca hO A0).mono fun c hc=>G2 _ hc) q hq A0 (fun r hr=>NB (Z r hr) q.bq)) ?_;rintro _ _ ⟨_,⟨ve,s9,rfl,af,rfl⟩,rfl⟩;obtain ⟨g9,c9,rfl⟩:=af.form;refine Xe (Ao BE Y Y Ft Wu (by exact Bj rfl) DO AH (by exact Aw _)) ?_;refine AM Y<|Bo rfl results17 Y Wh (Ai D0 BE Wn (AP rfl)) Y (by exact ⟨_,s9,by rw [O];rfl,by rw [O];exact Ca af (by have:=ZU q (l.flatMap Ci) (B4 (Ci x).length);show(Cc q (Ci x) (l.flatMap Ci)).rows.length<=maxLen;omega),rfl⟩)
   case' hl_3=>
    exact Ar
 all_goals
  refine Zq<|Bi<|Zg<|Zv (BK (vs:=[]) (cs:=#[_,_,_]) Y (AY (pl:=#[(0,1),(1,1),(2,1)]) GO Cd (fun _=>by kernel_rfl) rfl))<|Xe (Ao BE Y Y Ft Wu (by exact Bj rfl) DO AH (by exact Aw _)) ?_;refine AM Y<|Zt<|Bo rfl results17 Y Wh (Ai D0 BE Wn (AP rfl)) Y (by exact ⟨.slice none 0 0,[],by rw [hn];rfl,by rw [hn];exact Jk _,rfl⟩)
end Go.Proofs.YtljkoipiekbijaaGreatDoor
