/- Records encoded, in plain words; slices.Clone of changes. -/
import Derived.Test.YtlkdhannldcfbaaGreatDoorPy1
set_option linter.unusedVariables false
set_option linter.unusedSimpArgs false
namespace Go.Proofs.YtlkdhannldcfbaaGreatDoor
open Go.Proofs.Tryz
open Go Go.RowKit Gw
set_option maxRecDepth 100000
attribute [local irreducible] Gw.At Gw.Nx Gw.Ops
def DL:List UInt8:=List.replicate 32 0
def fl1(c:Chg):Int:=if c.had then 1 else 0
def vs1(c:Chg):List Int:=if c.had then [c.o.a,c.o.b,c.o.c]else []
def fl2(c:Chg):Int:=if c.has then fl1 c+2 else fl1 c
def vs2(c:Chg):List Int:=if c.has then vs1 c++[c.n.a,c.n.b,c.n.c]else vs1 c
def LQ(c:Chg):List UInt8:=CW [c.t,c.k,fl2 c]++CW (vs2 c)
def Er(p:Int)(cs:List Chg):List UInt8:=CW [p,(cs.length:Int)]++cs.flatMap LQ
def iV(n:Int):A4:=I4 n
theorem LH(xs:List Int):Ic (xs.map iV).toArray 0 xs:=fun i n h=>by
 rw [C6,cE,FG,h];rfl
theorem qE{cur:AN}{xs:List Int}(h:cur.toList.take xs.length=xs.map iV):Ic cur 0 xs:=fun i n hi=>by
 have g:=(zt.1 hi).1;rw [C6,<-HS];have m:(cur.toList.take xs.length)[i]?=(xs.map iV)[i]?:=by rw [h]
 rw [Gk,B0 g,FG,hi]at m;exact m
variable{c:Chg}
theorem qX(h:c.had=true):fl1 c=1:=B0 h
theorem qY(h:c.had=false):fl1 c=0:=As (by rw [h];decide)
theorem Ul(h:c.had=true):vs1 c=[c.o.a,c.o.b,c.o.c]:=B0 h
theorem mD(h:c.had=false):vs1 c=[]:=As (by rw [h];decide)
theorem qV(h:c.has=true):fl2 c=fl1 c+2:=B0 h
theorem qW(h:c.has=false):fl2 c=fl1 c:=As (by rw [h];decide)
theorem Uk(h:c.has=true):vs2 c=vs1 c++[c.n.a,c.n.b,c.n.c]:=B0 h
theorem Xu(h:c.has=false):vs2 c=vs1 c:=As (by rw [h];decide)
theorem eF(c:Chg):0<=fl1 c/\fl1 c<=1:=by unfold fl1;split<;>omega
theorem xU(c:Chg):0<=fl2 c/\fl2 c<=3:=by have:=eF c;unfold fl2;split<;>omega
theorem PZ(h:c.ok):(∀n∈[c.t,c.k,fl2 c],-4611686018427387903<=n/\n<=4611686018427387903)/\(∀n∈vs2 c,-4611686018427387903<=n/\n<=4611686018427387903)/\0<(vs2 c).length/\(vs2 c).length<=6:=by
 obtain ⟨I,h2,_,_⟩:=h;have K:=xU c
 have J:c.had=true->(inV c.o.a/\inV c.o.b/\inV c.o.c)/\(0<=c.t/\c.t<=3)/\(1<=c.k/\c.k<=1000000):=fun g=>by
  have:c.before.ok:=Xs (fun hn=>h2 (.inl ⟨g,hn⟩));rw [NA g]at this;exact this
 have hn:c.has=true->(inV c.n.a/\inV c.n.b/\inV c.n.c)/\(0<=c.t/\c.t<=3)/\(1<=c.k/\c.k<=1000000):=fun g=>by
  have:c.after.ok:=Xs (fun hn=>h2 (.inr ⟨g,hn⟩));rw [KR g]at this;exact this
 have O:(0<=c.t/\c.t<=3)/\(1<=c.k/\c.k<=1000000):=by
  cases g:c.had with
  |true=>exact (J g).2
  |false=>
   cases hs:c.has with
   |true=>exact (hn hs).2
   |false=>exact absurd (.inl ⟨by rw [g];decide,by rw [hs];decide⟩) I
 have m:∀n∈vs1 c,-4611686018427387903<=n/\n<=4611686018427387903:=by
  cases g:c.had with
  |true=>
   obtain ⟨⟨y,E,G⟩,_⟩:=J g;unfold inV at y E G;rw [Ul g];intro n hn;simp only [E4,Mu,N3]at hn;rcases hn with rfl|rfl|rfl<;>omega
  |false=>rw [mD g];intro n hn;cases hn
 refine ⟨fun n hn=>?_,?_,?_,?_⟩
 · simp only [E4,Mu,N3]at hn
   rcases hn with rfl|rfl|rfl<;>omega
 · cases hs:c.has with
   |true=>
    obtain ⟨⟨y,E,G⟩,_⟩:=hn hs;unfold inV at y E G;rw [Uk hs];intro n hn;rcases DM.1 hn with hn|hn
    · exact m n hn
    · simp only [E4,Mu,N3]at hn
      rcases hn with rfl|rfl|rfl<;>omega
   |false=>rw [Xu hs];exact m
 · cases hs:c.has with
   |true=>rw [Uk hs,zq];simp
   |false=>
    rw [Xu hs];cases g:c.had with
    |true=>rw [Ul g];exact Nat.succ_pos _
    |false=>exact absurd (.inl ⟨by rw [g];decide,by rw [hs];decide⟩) I
 · have:(vs1 c).length<=3:=by unfold vs1;split<;>simp
   cases hs:c.has with
   |true=>rw [Uk hs,zq];simp;omega
   |false=>rw [Xu hs];omega
theorem tC(c:Chg):(vs1 c).length<=3:=by unfold vs1;split<;>simp
theorem rF(h:c.ok):(LQ c).length<=81:=by
 obtain ⟨g,h2,m,y⟩:=PZ h;have a:=DT _ g
 have b:=DT _ h2;unfold LQ;rw [zq];have:[c.t,c.k,fl2 c].length=3:=rfl
 omega
theorem Tu:∀(cs:List Chg),(∀c∈cs,c.ok)->(cs.flatMap LQ).length<=cs.length*81
 |[],_=>C2 _
 |c::cs,h=>by
  have a:=Tu cs (fun x hx=>h x (by simp [hx]));have b:=rF (h c B3)
  rw [HF,zq,D3];omega
variable{p:Int}{cs:List Chg}
theorem PR(h:E9 p cs):∀n∈[p,(cs.length:Int)],-4611686018427387903<=n/\n<=4611686018427387903:=by
 intro n hn;have g:=h.pos
 have h2:=h.len;simp only [E4,Mu,N3]at hn;rcases hn with rfl|rfl<;>omega
theorem E9.mem(h:E9 p cs):∀c∈cs,c.ok:=fun c hc=>by
 obtain ⟨i,hi⟩:=H4 hc;exact h.all i c hi
theorem Vy(h:E9 p cs)(i:Nat):(CW [p,(cs.length:Int)]++(cs.take i).flatMap LQ).length<=666:=by
 have a:=DT _ (PR h);have b:=Tu (cs.take i) (fun c hc=>h.mem c (HI hc))
 have d:(cs.take i).length<=8:=by rw [zy];have:=h.len;omega
 rw [zq];have:[p,(cs.length:Int)].length=2:=rfl
 omega
theorem M7(h:E9 p cs):(Er p cs).length<=18+cs.length*81:=by
 have a:=DT _ (PR h);have b:=Tu cs h.mem
 unfold Er;rw [zq];have:[p,(cs.length:Int)].length=2:=rfl
 omega
variable{i:Nat}
theorem Tv(A:List UInt8){x:Chg}(hx:cs[i]?=some x):A++(cs.take (i+1)).flatMap LQ=(A++(cs.take i).flatMap LQ)++(CW [x.t,x.k,fl2 x]++CW (vs2 x)):=by
 rw [Kx,hx];show A++(cs.take i++[x]).flatMap LQ=_
 rw [Ly,D2];simp only [HF,fh,H3];rfl
theorem jI(p:Int)(q:B7)(cap:Nat)(cs:List Chg)(M:List AU)(hO:Dq M (.slice q cs.length cap) cs)(G:E9 p cs):BC prog 129 #[.agg #[I4 p,.slice q cs.length cap]] [M] (.tuple #[.string (str (Er p cs)),I4 0]):=by
 have o8:=mL;obtain ⟨p9,d9,e9,p8,hg⟩:=id hO;injection e9 with e91 e92 e93
 subst e91 e93;have Z:=PR G
 have ek:=G.len;refine Se func129 ntmps129 [0] ?_;intro u R;refine A1<|Ze (Bx #[_,_])<|AF fun b1=>Za Y<|A3 Y<|Zq<|A1<|Zo Wh (Pa #[_,_] HX E6 Y) ?_;refine Xr [_] Y call144 Y V (Q3 p q cap cs M hO) ?_;rw [CA G];refine Zv (Cj Y)<|AD<|Ad Y (fun hv=>by cases hv)<|fun hv=>AB<|Zx<|A1<|Zh 0 Ft V rfl A5 Y<|Zl AE Y ?_;refine Zh 1 Ft V rfl Hx Y<|Zl J1 Y ?_;refine Zv (AP Fk Y)<|Ze (Af (vs:=[_,_]) (cs:=[_,_]) Fi A5 HL Y V rfl V rfl V)<|AF fun gb=>Xr [_] Y call138 Y V (SI gb 0 2 _ _ _ [p,(cs.length:Int)] (LH [p,(cs.length:Int)]) B3 Z) ?_;refine AH Y<|Zn [1,4] ?_;refine Zx<|Zq<|A1<|Zh 1 Ft V rfl Hx Y<|Zl J1 Y ?_;refine Zv (AP Fk Y)<|Zm Y<|AD<|AX<|Zb [4,22,20,21] ?_;refine BB (e0:=[(4,_),(22,_)]) (fun m e H=>∃(i:Nat),m=cs.length -i/\(i<=cs.length)/\e=[(4,.string (str (CW [p,(cs.length:Int)]++(cs.take i).flatMap LQ))),(22,I4 (i:Int))]/\H=[]) (by exact ⟨0,rfl,C2 _,by rw [Hj,fh,H3];rfl,rfl⟩) Wp ?_;rintro _ _ _ ⟨i,rfl,hi,rfl,rfl⟩;refine A1<|Zv (Au Y Y)<|AD<|Zq<|Ak Y (fun U=>?_) (fun U=>?_);·
  obtain ⟨x,hx⟩:∃x,cs[i]?=some x:=⟨_,zn U⟩;obtain ⟨g,off,cur,T,zz,rfl,hm,pg,bn⟩:=hg i x hx;obtain ⟨W,X,cu,o9⟩:=PZ (G.all i x hx);have gm:=DT _ W
  have gq:=DT _ X;have pq:=Vy G i
  have mR:[x.t,x.k,fl2 x].length=3:=rfl;have l9:=eF x
  have lv:=tC x;refine AB<|Zx<|Zq<|AX<|A1<|Ap (AO Fk C5 Y Y CT)<|Ca (cs:=[(g,.cells cur T zz)]) (by simp [hm]) (A9 (cs:=#[I4 x.t,I4 x.k,.bool x.had,I4 x.o.a,I4 x.o.b,I4 x.o.c,.bool x.has,I4 x.n.a,I4 x.n.b,I4 x.n.c]) GC C5 Y A0 bn) rfl rfl ?_;refine Ze (Al K1 #[_,_,_,_,_,_,_,_,_,_])<|AF fun K=>Xe (Xw C5 #[I4 x.t,I4 x.k,.bool x.had,I4 x.o.a,I4 x.o.b,I4 x.o.c,.bool x.has,I4 x.n.a,I4 x.n.b,I4 x.n.c]) ?_;refine AD<|Zq<|Bl<|Zg<|Za Y<|A3 Y<|Zb [7,8,4,6,20,21,22] ?_;refine CL (e0:=[(7,_),(8,_)]) (H0:=[[(K,.cells #[I4 x.t,I4 x.k,.bool x.had,I4 x.o.a,I4 x.o.b,I4 x.o.c,.bool x.has,I4 x.n.a,I4 x.n.b,I4 x.n.c] 106 (0,0))],[]]) (fun e H=>∃(v:A4) (J:List AU),(Row 3 v ((vs1 x).map iV) J)/\e=[(7,I4 (fl1 x)),(8,v)]/\H=[[(K,.cells #[I4 x.t,I4 x.k,.bool x.had,I4 x.o.a,I4 x.o.b,I4 x.o.c,.bool x.has,I4 x.n.a,I4 x.n.b,I4 x.n.c] 106 (0,0))],J]) Wp ?hx_2 ?hy_2
  case hx_2=>
   refine A1<|Zh 2 B9 V rfl Cl Y<|Zl DH Y ?_;refine AD<|Ad Y (fun y=>?_) (fun y=>?_);·
    refine Zg<|Zm Y<|Zh 3 B9 V rfl CD Y<|Zv (Fg G1 A5 Y)<|Ze (Oc (by_:=8) Fi (V:Tryz.prog.info? 3=some Tryz.t3) V rfl V rfl Y (JO 3) Y (gL (cur:=#[I4 x.t,I4 x.k,.bool x.had,I4 x.o.a,I4 x.o.b,I4 x.o.c,.bool x.has,I4 x.n.a,I4 x.n.b,I4 x.n.c]) (ys:=[iV x.o.a,iV x.o.b,iV x.o.c]) (o:=3) V AK V) Wo Wo (by simp [iV,Value.oneCell']) Lo B3) ?_;rintro _ _ ⟨sa,af,rfl⟩;obtain ⟨ga,ca,rfl⟩:=af.form;refine Za Y<|AH Y<|Zn [7,8,4,6,20,21,22] ?_;refine Aq (e':=[(7,_),(8,_)]) (by exact ⟨_,sa,by rw [Ul y];exact af,by rw [qX y],rfl⟩)
   refine AB<|Zn [7,8,4,6,20,21,22] ?_;refine Aq (e':=[(7,_),(8,_)]) (by exact ⟨.slice none 0 0,[],by rw [mD y];exact JO _,by rw [qY y],rfl⟩)
  rintro _ _ ⟨v,J,bf,rfl,rfl⟩;refine Zb [7,8,4,6,20,21,22] ?_;refine CL (e0:=[(7,_),(8,_)]) (H0:=[[(K,.cells #[I4 x.t,I4 x.k,.bool x.had,I4 x.o.a,I4 x.o.b,I4 x.o.c,.bool x.has,I4 x.n.a,I4 x.n.b,I4 x.n.c] 106 (0,0))],J]) (fun e H=>∃(v:A4) (J:List AU),(Row 3 v ((vs2 x).map iV) J)/\e=[(7,I4 (fl2 x)),(8,v)]/\H=[[(K,.cells #[I4 x.t,I4 x.k,.bool x.had,I4 x.o.a,I4 x.o.b,I4 x.o.c,.bool x.has,I4 x.n.a,I4 x.n.b,I4 x.n.c] 106 (0,0))],J]) Wp ?hx_5 ?hy_5
  case hx_5=>
   refine A1<|Zh 6 B9 V rfl Cl Y<|Zl DH Y ?_;refine AD<|Ad Y (fun E=>?_) (fun E=>?_);·
    refine Zg<|Zm Y<|Yi Y Y<|Zm Y<|Zh 7 B9 rfl rfl CD Y<|Zv (Fg G1 A5 Y)<|Ze (Oc (by_:=8) Fi (rfl:Tryz.prog.info? 3=some Tryz.t3) rfl rfl rfl rfl Y (bf) Y (gL (cur:=#[I4 x.t,I4 x.k,.bool x.had,I4 x.o.a,I4 x.o.b,I4 x.o.c,.bool x.has,I4 x.n.a,I4 x.n.b,I4 x.n.c]) (ys:=[iV x.n.a,iV x.n.b,iV x.n.c]) (o:=7) rfl AK rfl) Wo Wo (by simp [iV,Value.oneCell']) (by rw [zu];simp;omega) (by rw [zu];simp;omega)) ?_;rintro _ _ ⟨sb,ax,rfl⟩;obtain ⟨gb,K,rfl⟩:=ax.form;refine Za Y<|AH Y<|Zn [7,8,4,6,20,21,22] ?_;refine Aq (e':=[(7,_),(8,_)]) (by exact ⟨_,sb,by rw [Uk E,Dg];exact ax,by rw [qV E],rfl⟩)
   refine AB<|Zn [7,8,4,6,20,21,22] ?_;refine Aq (e':=[(7,_),(8,_)]) (by exact ⟨v,J,by rw [Xu E];exact bf,by rw [qW E],rfl⟩)
  rintro _ _ ⟨v2,pz,cO,rfl,rfl⟩;obtain ⟨gv,cv,O,zv,rfl,rfl,gy,kv,kz,I,l8⟩:=cO.some (by rw [zu];exact cu);rw [zu]at I⊢;refine Zg<|Zm Y<|Zh 0 B9 V rfl A5 Y<|Zl AE Y ?_;refine Zh 1 B9 V rfl A5 Y<|Zl AE Y ?_;refine Zm Y<|Ze (Af (vs:=[_,_,_]) (cs:=[_,_,_]) Fi A5 HL Y V rfl V rfl V)<|AF fun gp=>Xr [_] Y call138 Y V (SI gp 0 3 _ _ _ [x.t,x.k,fl2 x] (LH [x.t,x.k,fl2 x]) B3 W) ?_;refine Zm Y<|Xr [_] Y call138 Y V (SI gv 0 cv O _ zv (vs2 x) (qE I) A0 X) ?_;refine Ap (CY Y Y (by rw [BO,BO];omega))<|Ap (CY Y Y (by rw [CZ,BO,BO];have h9:(CW [x.t,x.k,fl2 x]++CW (vs2 x)).length=_:=zq;omega))<|AH Y<|Zn [4,20,21,22] ?_;refine A8<|Zx<|Zg<|Ya (n:=1) Y Y<|Zm Y<|Z0<|Zn [4,22,20,21] ?_;refine AZ (e':=[(4,_),(22,_)]) (by exact ⟨i+1,rfl,by omega,by rw [Tv _ hx,<-CZ (CW [p,(cs.length:Int)]++(cs.take i).flatMap LQ),<-CZ (CW [x.t,x.k,fl2 x]) (CW (vs2 x))],rfl⟩)
 refine Aw<|Zt<|Zt<|AQ<|Zx<|A1<|Zm Y<|Za Y<|A3 Y<|AA<|Dv rfl results129 Y Y (by exact ⟨by rw [HK A0];rfl,rfl⟩)
theorem UR(a b:List Ct):IX (a++b)=IX a++IX b:=by unfold IX;rw [Ly]
noncomputable instance(a b:Ct):Decidable (a=b):=Classical.propDecidable _
def Ct.ok(h:Ct):Prop:=(0<=h.p/\h.p<=10000)/\h.ch.length=32/\h.st.length=32
instance(h:Ct):Decidable h.ok:=inferInstanceAs(Decidable (_/\_))
theorem iL{x y:Ct}:x=y↔x.p=y.p/\x.ch=y.ch/\x.st=y.st:=by
 obtain ⟨a,b,c⟩:=x;obtain ⟨d,e,f⟩:=y;simp only [Ct.mk.injEq]
theorem eqH(x y:Ct):EqT prog 3 48 (.agg #[I4 x.p,.string (str x.ch),.string (str x.st)]) (.agg #[I4 y.p,.string (str y.ch),.string (str y.st)]) (decide (x=y)):=
 OT HD AG (.cons AK (Cr AE rfl) (Cr AE rfl) (Ii F0 _ _)<| .cons AK (Cr Fm rfl) (Cr Fm rfl) (iT HE _ _)<| .cons AK (Cr Fm rfl) (Cr Fm rfl) (iT HE _ _)<| .nil) (by
  rw [fx];simp only [gE,List.all_nil,cR,Fo,id,I2,iL];constructor;· rintro ⟨a,b,c⟩;exact ⟨a,Lc b,Lc c⟩
  · rintro ⟨a,b,c⟩;exact ⟨a,by rw [b],by rw [c]⟩)
theorem xX{x y:Chg}:x=y↔x.t=y.t/\x.k=y.k/\x.had=y.had/\x.o=y.o/\x.has=y.has/\x.n=y.n:=by
 obtain ⟨a,b,c,d,e,f⟩:=x;obtain ⟨g,m,c',E,e',G⟩:=y;simp only [Chg.mk.injEq]
theorem eqC(x y:Chg):EqT prog 3 106 (.agg x.Ao4) (.agg y.Ao4) (decide (x=y)):=
 OT B9 AG (.cons AK (Cr AE rfl) (Cr AE rfl) (Ii F0 _ _)<| .cons AK (Cr AE rfl) (Cr AE rfl) (Ii F0 _ _)<| .cons AK (Cr DH rfl) (Cr DH rfl) (aG On _ _)<| .cons AK (P9 (cs:=#[I4 x.o.a,I4 x.o.b,I4 x.o.c]) HB CD rfl (by exact (by decide:(6:Nat)<=10))) (P9 (cs:=#[I4 y.o.a,I4 y.o.b,I4 y.o.c]) HB CD rfl (by exact (by decide:(6:Nat)<=10))) (aH G1 F0 AE A5 x.o y.o)<| .cons AK (Cr DH rfl) (Cr DH rfl) (aG On _ _)<| .cons AK (P9 (cs:=#[I4 x.n.a,I4 x.n.b,I4 x.n.c]) HB CD rfl (by exact (by decide:(10:Nat)<=10))) (P9 (cs:=#[I4 y.n.a,I4 y.n.b,I4 y.n.c]) HB CD rfl (by exact (by decide:(10:Nat)<=10))) (aH G1 F0 AE A5 x.n y.n)<| .nil) (by
  rw [fx];simp only [gE,List.all_nil,cR,Fo,id,I2,xX])
theorem yG{x y:QM}:x=y↔x.kd=y.kd/\x.tb=y.tb/\x.cl=y.cl/\x.lo=y.lo/\x.hi=y.hi/\x.bq=y.bq/\x.ot=y.ot:=by
 obtain ⟨a,b,c,d,e,f,g⟩:=x;obtain ⟨m,E,c',G,e',I,J⟩:=y;simp only [QM.mk.injEq]
theorem eqQ(x y:QM):EqT prog 3 30 (.agg x.Ao6) (.agg y.Ao6) (decide (x=y)):=
 OT CN AG (.cons AK (Cr AE rfl) (Cr AE rfl) (Ii F0 _ _)<| .cons AK (Cr AE rfl) (Cr AE rfl) (Ii F0 _ _)<| .cons AK (Cr AE rfl) (Cr AE rfl) (Ii F0 _ _)<| .cons AK (Cr AE rfl) (Cr AE rfl) (Ii F0 _ _)<| .cons AK (Cr AE rfl) (Cr AE rfl) (Ii F0 _ _)<| .cons AK (Cr AE rfl) (Cr AE rfl) (Ii F0 _ _)<| .cons AK (Cr AE rfl) (Cr AE rfl) (Ii F0 _ _)<| .nil) (by
  rw [fx];simp only [gE,List.all_nil,cR,Fo,id,I2,yG])
def Bg.key(r:Bg):Int×List Chg:=(r.p,r.cs)
variable{M:List AU}{vb va:A4}
theorem rD{a b:List Chg}(ha:Dq M va a)(hb:Dq M vb b):BC prog 120 #[va,vb] [M] (.bool (decide (a=b))):=by
 have kv:=mL;obtain ⟨pa,ca,rfl,gq,W⟩:=ha;obtain ⟨pb,cb,rfl,gy,X⟩:=hb;refine Se func120 ntmps120 [0,1] ?_;intro u R;refine A1<|A3 Y<|Zq<|A1<|Zm Y<|Zv (AP Fk Y)<|Zm Y<|Zv (AP Fk Y)<|Zv (E5 Y Y)<|AD<|Ak Y (fun O=>?_) (fun O=>?_);·
  refine A1<|A3 Y<|AA<|Zt<|AC rfl results120 Y (by exact ⟨Ea (fun e=>O (by rw [e])),rfl⟩)
 have Z:a.length=b.length:=by omega
 refine AB<|Zx<|Zq<|A1<|Zm Y<|Zv (AP Fk Y)<|Zm Y<|AD<|AX<|Zb [13,0,1,12] ?_;refine BB (e0:=[(13,_)]) (fun m e H=>∃(i:Nat),m=a.length -i/\(i<=a.length/\∀j,j<i->a[j]?=b[j]?)/\e=[(13,I4 (i:Int))]/\H=[]) (by exact ⟨0,V,⟨C2 _,by intro j hj;omega⟩,V,V⟩) Wp ?_;rintro _ _ _ ⟨i,rfl,⟨hi,g⟩,rfl,rfl⟩;refine A1<|Zv (Au Y Y)<|AD<|Zq<|Ak Y (fun af=>?_) (fun af=>?_);·
  obtain ⟨x,hx⟩:∃x,a[i]?=some x:=⟨_,zn A0⟩;obtain ⟨y,hy⟩:∃y,b[i]?=some y:=⟨_,zn A0⟩;obtain ⟨g1,ek,E,T1,bn,rfl,ax,cO,J⟩:=W i x hx;obtain ⟨g2,gm,G,T2,cu,rfl,bf,d9,K⟩:=X i y hy;refine AB<|Zx<|Zq<|AX<|A1<|Zm Y<|A3 Y<|Zq<|BJ (n:=9) (0::0::3::7::0::0::48::112::255::[]) 0 AG AG V<|A2 0 V (AJ Y)<|A2 1 V (AJ Y)<|A2 2 V (AO Fk C5 Y Y A0)<|Gf (b:=g1) (x:= .cells E T1 bn) (D':=15) 3 V rfl V (by simp [ax]) (A9 (cs:=#[I4 x.t,I4 x.k,.bool x.had,I4 x.o.a,I4 x.o.b,I4 x.o.c,.bool x.has,I4 x.n.a,I4 x.n.b,I4 x.n.c]) GC C5 Y A0 J) ?_;refine A2 4 V (AJ Y)<|A2 5 V (AJ Y)<|A2 6 V (AO Fk C5 Y Y A0)<|Gf (b:=g2) (x:= .cells G T2 cu) (D':=255) 7 V rfl V (by simp [bf]) (A9 (cs:=#[I4 y.t,I4 y.k,.bool y.had,I4 y.o.a,I4 y.o.b,I4 y.o.c,.bool y.has,I4 y.n.a,I4 y.n.b,I4 y.n.c]) GC C5 Y A0 K) ?_;refine A2 8 V (xB AG Y Y (eqC x y))<|Ao<|Zx<|Ad Y (fun I=>?_) (fun I=>?_);·
   have I:¬x=y:=by simpa using I
   refine A1<|AH Y<|Zn [4] ?_;refine Zx<|AA<|Ab<|Zt<|Zt<|Ab<|Zt<|AC rfl results120 Y (by exact ⟨Ea (fun e=>by rw [e,hy]at hx;injection hx with hx;exact I hx.symm),rfl⟩)
  have U:x=y:=by simpa using I
  refine AB<|A8<|Zx<|Zg<|Ya (n:=1) Y Y<|Zm Y<|Z0<|Zn [13,0,1,12] ?_;refine AZ (e':=[(13,_)]) (by exact ⟨i+1,rfl,⟨by omega,fun j hj=>by rcases DP j i with h9|h9;exact g j h9;obtain rfl:j=i:=A0;rw [hx,hy];exact congrArg some U⟩,rfl,rfl⟩)
 refine Aw<|Zt<|Zt<|AQ<|Zx<|A1<|A3 Y<|AA<|AC V results120 Y (by exact ⟨LP (NS Z (fun j hj=>g j A0)),V⟩)
theorem bR{a b:Bg}(y:Dq M (.slice a.q a.cs.length a.cap) a.cs)(E:Dq M (.slice b.q b.cs.length b.cap) b.cs):BC prog 54 #[.agg #[I4 a.p,.slice a.q a.cs.length a.cap],.agg #[I4 b.p,.slice b.q b.cs.length b.cap]] [M] (.bool (decide (a.key=b.key))):=by
 refine Se func54 ntmps54 [0,1] ?_;intro u R;refine A1<|Ze (Bx #[_,_])<|AF fun G=>Ze (Bx #[_,_])<|AF fun I=>A3 Y<|A1<|Zh 0 Ft V rfl A5 Y<|Zl AE Y ?_;refine Zh 0 Ft V rfl A5 Y<|Zl AE Y ?_;refine Zv (Br Y Y)<|Zm Y<|Ai (t:=10) Y V (fun g=>?_) (fun g=>?_);·
  refine Yf 1 Ft V rfl Hx Y<|Yl J1 Y ?_;refine Yf 1 Ft V rfl Hx Y<|Yl J1 Y ?_;refine Xr [_,_] Y call120 Y V (rD y E) ?_;refine Zv (AR Y Y)<|AH Y<|Zn [4] ?_;refine Zx<|AA<|AC V results54 Y (by exact ⟨by exact GL ⟨fun m=>Prod.ext g m,fun m=>(Prod.ext_iff.1 m).2⟩,V⟩)
 refine A7 Y V<|A7 Y V<|A7 Y V<|A7 Y V<|A7 Y V<|Zv (AL Y Y)<|AH Y<|Zn [4] ?_;refine Zx<|AA<|AC V results54 Y (by exact ⟨by exact Ea (fun e=>g (Prod.ext_iff.1 e).1),V⟩)
theorem eO{a b:List Bg}(ha:Cw M va a)(hb:Cw M vb b):BC prog 119 #[va,vb,.func (.func 54) #[] #[]] [M] (.bool (decide (a.map Bg.key=b.map Bg.key))):=by
 have lv:=mL;obtain ⟨pa,ca,rfl,l8,X⟩:=ha;obtain ⟨pb,cb,rfl,l9,Z⟩:=hb;refine Se func119 ntmps119 [0,1,2] ?_;intro u R;refine A1<|A3 Y<|Zq<|A1<|Zm Y<|Zv (AP Fl Y)<|Zm Y<|Zv (AP Fl Y)<|Zv (E5 Y Y)<|AD<|Ak Y (fun K=>?_) (fun K=>?_);·
  refine A1<|A3 Y<|AA<|Zt<|AC V results119 Y (by exact ⟨Ea (fun e=>K (by have:=congrArg List.length e;simpa using this)),V⟩)
 have af:a.length=b.length:=by omega
 refine AB<|Zx<|Zq<|A1<|Zm Y<|Zv (AP Fl Y)<|Zm Y<|AD<|AX<|Zb [17,1,2,15,16] ?_;refine BB (e0:=[(17,_)]) (fun m e H=>∃(i:Nat),m=a.length -i/\(i<=a.length/\∀j,j<i->(a.map Bg.key)[j]?=(b.map Bg.key)[j]?)/\e=[(17,I4 (i:Int))]/\H=[]) (by exact ⟨0,V,⟨C2 _,by intro j hj;omega⟩,V,V⟩) Wp ?_;rintro _ _ _ ⟨i,rfl,⟨hi,g⟩,rfl,rfl⟩;refine A1<|Zv (Au Y Y)<|AD<|Zq<|Ak Y (fun ax=>?_) (fun ax=>?_);·
  obtain ⟨x,hx⟩:∃x,a[i]?=some x:=⟨_,zn A0⟩;obtain ⟨y,hy⟩:∃y,b[i]?=some y:=⟨_,zn A0⟩;obtain ⟨cu,g1,gy,E,T1,d9,rfl,bf,gm,I⟩:=X i x hx;obtain ⟨cO,g2,kv,G,T2,ek,rfl,bn,gq,J⟩:=Z i y hy;refine AB<|Zx<|Zq<|AX<|A1<|Zm Y<|Ap (AO Fl E6 Y Y A0)<|Ca (cs:=[(g1,.cells E T1 d9)]) (by simp [bf]) (A9 (cs:=#[I4 x.p,.slice x.q x.cs.length x.cap]) HX E6 Y A0 I) V rfl ?_;refine Ze (Al Pc #[_,_])<|AF fun bx=>Za Y<|Xe (Xw E6 #[I4 x.p,.slice x.q x.cs.length x.cap]) ?_;refine AD<|A1<|Zm Y<|Zm Y<|Ap (AO Fl E6 Y Y A0)<|Ca (cs:=[(g2,.cells G T2 ek)]) (by simp [bn]) (A9 (cs:=#[I4 y.p,.slice y.q y.cs.length y.cap]) HX E6 Y A0 J) V rfl ?_;refine Ze (Al Pc #[_,_])<|AF fun kz=>Xe (Xw E6 #[I4 y.p,.slice y.q y.cs.length y.cap]) ?_;refine Z0<|Zn [1,2,8,9,15,16,17] ?_;refine Zx<|A1<|Zm Y<|Zo Wh (Pa #[_,_] HX E6 Y) ?_;refine Zo Wh (Pa #[_,_] HX E6 Y) ?_;refine Xr [_,_] Y call54 Y V (bR cu cO) ?_;refine Zv (C9 Y)<|AD<|Ak Y (fun U=>?_) (fun U=>?_);·
   refine A1<|A3 Y<|AA<|Ab<|Zt<|Zt<|Ab<|Zt<|AC V results119 Y (by exact ⟨Ea (fun e=>by have O:=congrArg (fun l=>l[i]?) e;simp only [FG,hx,hy,L7]at O;injection O with O;exact U O),V⟩)
  have W:x.key=y.key:=G2.1 U;refine AB<|A8<|Zx<|Zg<|Ya (n:=1) Y Y<|Zm Y<|Z0<|Zn [17,1,2,15,16] ?_;refine AZ (e':=[(17,_)]) (by exact ⟨i+1,rfl,⟨by omega,fun j hj=>by rcases DP j i with h9|h9;exact g j h9;obtain rfl:j=i:=A0;rw [FG,FG,hx,hy];exact congrArg some W⟩,rfl,rfl⟩)
 refine Aw<|Zt<|Zt<|AQ<|Zx<|A1<|A3 Y<|AA<|AC rfl results119 Y (by exact ⟨LP (NS (by simp [af]) (fun j hj=>g j (by rw [zu]at hj;omega))),rfl⟩)
theorem Ue{a b:List Bg}(g:Cw M va a)(m:Cw M vb b):BC prog 53 #[va,vb,.func (.func 54) #[] #[]] [M] (.bool (decide (a.map Bg.key=b.map Bg.key))):=by
 refine Se func53 ntmps53 [0,1,2] ?_;intro u R;refine A1<|A3 Y<|A1<|Zm Y<|Zm Y<|Zm Y<|Xr [_,_,_] Y call119 Y V (eO g m) ?_;refine A3 Y<|AA<|AC V results53 Y (by exact ⟨V,V⟩)
set_option maxHeartbeats 1000000 in
theorem lF{a b:List RP}(ha:FE M va a)(hb:FE M vb b):BC prog 114 #[va,vb,.func (.func 52) #[] #[]] [M] (.bool (decide (a=b))):=by
 have mR:=mL;obtain ⟨pa,ca,rfl,l9,ek⟩:=ha.form;obtain ⟨pb,cb,rfl,lv,gm⟩:=hb.form;refine Se func114 ntmps114 [0,1,2] ?_;intro u R;refine A1<|A3 Y<|Zq<|A1<|Zm Y<|Zv (AP DQ Y)<|Zm Y<|Zv (AP DQ Y)<|Zv (E5 Y Y)<|AD<|Ak Y (fun K=>?_) (fun K=>?_);·
  refine A1<|A3 Y<|AA<|Zt<|AC rfl results114 Y (by exact ⟨Ea (fun e=>K (by rw [e])),rfl⟩)
 have W:a.length=b.length:=by omega
 refine AB<|Zx<|Zq<|A1<|Zm Y<|Zv (AP DQ Y)<|Zm Y<|AD<|AX<|Zb [17,1,2,15,16] ?_;refine BB (e0:=[(17,_)]) (fun m e H=>∃(i:Nat),m=a.length -i/\(i<=a.length/\∀j,j<i->a[j]?=b[j]?)/\e=[(17,I4 (i:Int))]/\H=[]) (by exact ⟨0,V,⟨C2 _,by intro j hj;omega⟩,V,V⟩) Wp ?_;rintro _ _ _ ⟨i,rfl,⟨hi,g⟩,rfl,rfl⟩;refine A1<|Zv (Au Y Y)<|AD<|Zq<|Ak Y (fun X=>?_) (fun X=>?_);·
  obtain ⟨x9,hx⟩:∃x,a[i]?=some x:=⟨_,zn A0⟩;obtain ⟨y9,hy⟩:∃y,b[i]?=some y:=⟨_,zn A0⟩;obtain ⟨x,bn,ax,g1,kv,E,T1,cO,rfl,Z,gq,I⟩:=ha.at hx;obtain ⟨y,cu,bf,g2,kz,G,T2,d9,rfl,af,gy,J⟩:=hb.at hy;subst bn cu;refine AB<|Zx<|Zq<|AX<|A1<|Zm Y<|Ap (AO DQ DE Y Y A0)<|Ca (cs:=[(g1,.cells E T1 cO)]) (by simp [Z]) (A9 (cs:=#[I4 x.x.tb,I4 x.x.cl,I4 x.x.lo,I4 x.x.hi,I4 x.x.ct,I4 x.x.fi,.slice x.qr x.x.rows.length x.cr,.slice x.qp x.x.paths.length x.cp,.slice x.qt x.x.roots.length x.ct]) LI DE Y A0 I) V rfl ?_;refine Ze (Al P0 #[_,_,_,_,_,_,_,_,_])<|AF fun bx=>Za Y<|Xe (Xw DE #[I4 x.x.tb,I4 x.x.cl,I4 x.x.lo,I4 x.x.hi,I4 x.x.ct,I4 x.x.fi,.slice x.qr x.x.rows.length x.cr,.slice x.qp x.x.paths.length x.cp,.slice x.qt x.x.roots.length x.ct]) ?_;refine AD<|A1<|Zm Y<|Zm Y<|Ap (AO DQ DE Y Y A0)<|Ca (cs:=[(g2,.cells G T2 d9)]) (by simp [af]) (A9 (cs:=#[I4 y.x.tb,I4 y.x.cl,I4 y.x.lo,I4 y.x.hi,I4 y.x.ct,I4 y.x.fi,.slice y.qr y.x.rows.length y.cr,.slice y.qp y.x.paths.length y.cp,.slice y.qt y.x.roots.length y.ct]) LI DE Y A0 J) V rfl ?_;refine Ze (Al P0 #[_,_,_,_,_,_,_,_,_])<|AF fun l8=>Xe (Xw DE #[I4 y.x.tb,I4 y.x.cl,I4 y.x.lo,I4 y.x.hi,I4 y.x.ct,I4 y.x.fi,.slice y.qr y.x.rows.length y.cr,.slice y.qp y.x.paths.length y.cp,.slice y.qt y.x.roots.length y.ct]) ?_;refine Z0<|Zn [1,2,8,9,15,16,17] ?_;refine Zx<|A1<|Zm Y<|Zo Wh (Pa #[_,_,_,_,_,_,_,_,_] LI DE Y) ?_;refine Zo Wh (Pa #[_,_,_,_,_,_,_,_,_] LI DE Y) ?_;refine Xr [_,_] Y call52 Y V (jG ax.rp bf.rp) ?_;refine Zv (C9 Y)<|AD<|Ak Y (fun O=>?_) (fun O=>?_);·
   refine A1<|A3 Y<|AA<|Ab<|Zt<|Zt<|Ab<|Zt<|AC rfl results114 Y (by exact ⟨Ea (fun e=>by rw [e,hy]at hx;injection hx with hx;exact O hx.symm),rfl⟩)
  have U:x.x=y.x:=G2.1 O;refine AB<|A8<|Zx<|Zg<|Ya (n:=1) Y Y<|Zm Y<|Z0<|Zn [17,1,2,15,16] ?_;refine AZ (e':=[(17,_)]) (by exact ⟨i+1,rfl,⟨by omega,fun j hj=>by rcases DP j i with h9|h9;exact g j h9;obtain rfl:j=i:=A0;rw [hx,hy];exact congrArg some U⟩,rfl,rfl⟩)
 refine Aw<|Zt<|Zt<|AQ<|Zx<|A1<|A3 Y<|AA<|AC V results114 Y (by exact ⟨LP (NS W (fun j hj=>g j A0)),V⟩)
theorem Xf{a b:List RP}(g:FE M va a)(m:FE M vb b):BC prog 51 #[va,vb,.func (.func 52) #[] #[]] [M] (.bool (decide (a=b))):=by
 refine Se func51 ntmps51 [0,1,2] ?_;intro u R;refine A1<|A3 Y<|A1<|Zm Y<|Zm Y<|Zm Y<|Xr [_,_,_] Y call114 Y V (lF g m) ?_;refine A3 Y<|AA<|AC V results51 Y (by exact ⟨V,V⟩)
def GQ(h:Ct)(r:Bg)(st:Bs):Prop:=E9 r.p r.cs/\h.ok/\st.length=32/\r.p=h.p+1
noncomputable instance(h:Ct)(r:Bg)(st:Bs):Decidable (GQ h r st):=Classical.propDecidable _
def Gi(h:Ct)(r:Bg)(st:Bs):Ct:=⟨r.p,Jt h.ch (Er r.p r.cs),st⟩
noncomputable def Jo(h:Ct)(r:Bg)(st:Bs):Ct×Int:=if GQ h r st then(Gi h r st,0)else(⟨0,[],[]⟩,90)
noncomputable def IB(st:Bs):Ct->List Bg->Option Ct
 |h,[]=>some h
 |h,r::l=>if GQ h r st then IB st (Gi h r st) l else none
def Ju(a:Ct)(l:List Bg)(b:Ct):Prop:=a.ok/\b.ok/\IB b.st a l=some b
noncomputable instance(a:Ct)(l:List Bg)(b:Ct):Decidable (Ju a l b):=Classical.propDecidable _
theorem Pq(st:Bs):∀(l l2:List Bg) (h:Ct),IB st h (l++l2)=(IB st h l).bind fun g=>IB st g l2
 |[],_,_=>rfl
 |r::l,l2,h=>by
  show(if GQ h r st then IB st (Gi h r st) (l++l2)else none)=(if GQ h r st then IB st (Gi h r st) l else none).bind _;split;· exact Pq st l l2 _
  · rfl
variable{l:List Bg}
theorem Nv{st:Bs}{a h:Ct}{r:Bg}(m:IB st a (l.take i)=some h)(g:l[i]?=some r):IB st a (l.take (i+1))=if GQ h r st then some (Gi h r st)else none:=by
 rw [C8 g,Pq,m];rfl
theorem bA{st:Bs}{a:Ct}(h:IB st a (l.take i)=none):IB st a l=none:=by
 rw [<-HW i l,Pq,h];rfl
noncomputable def lH(p:Int)(cs:List Chg):Bs×Int:=if E9 p cs then(Er p cs,0)else([],30)
theorem Wi(p:Int)(q:B7)(cap:Nat)(cs:List Chg)(M:List AU)(m:Dq M (.slice q cs.length cap) cs)(g:¬E9 p cs):BC prog 129 #[.agg #[I4 p,.slice q cs.length cap]] [M] (.tuple #[.string (str []),I4 30]):=by
 refine Se func129 ntmps129 [0] ?_;intro u R;refine A1<|Ze (Bx #[_,_])<|AF fun y=>Za Y<|A3 Y<|Zq<|A1<|Zo Wh (Pa #[_,_] HX E6 Y) ?_;refine Xr [_] Y call144 Y V (Q3 p q cap cs M m) ?_;rw [Bm g];refine Zv (Cj Y)<|AD<|Ad Y (fun hv=>?_) (fun hv=>?_);·
  refine A1<|Za Y<|A3 Y<|AA<|Zt<|Dv V results129 Y Y (by exact ⟨V,V⟩)
 cases hv
theorem lG(p:Int)(q:B7)(cap:Nat)(cs:List Chg)(M:List AU)(g:Dq M (.slice q cs.length cap) cs):BC prog 129 #[.agg #[I4 p,.slice q cs.length cap]] [M] (.tuple #[.string (str (lH p cs).1),I4 (lH p cs).2]):=by
 unfold lH;split;· rename_i h;exact jI p q cap cs M g h
 · rename_i h;exact Wi p q cap cs M g h
theorem xH(h:Ct)(r:Bg)(st:List UInt8)(X:Dq M (.slice r.q r.cs.length r.cap) r.cs)(J:AM)(O:Nat×Nat):BC prog 68 #[.agg #[I4 h.p,.string (str h.ch),.string (str h.st)],.agg #[I4 r.p,.slice r.q r.cs.length r.cap],.string (str st)] [M,[(1,.cells (Di.map CB).toArray J O)]] (.tuple #[.agg #[I4 (Jo h r st).1.p,.string (str (Jo h r st).1.ch),.string (str (Jo h r st).1.st)],I4 (Jo h r st).2]):=by
 have af:=mL;refine Se func68 ntmps68 [0,1,2] ?_;intro u R;refine A1<|Ze (Bx #[_,_,_])<|AF fun b1=>Ze (Bx #[_,_])<|AF fun b2=>Ze (Al J0 #[_,_,_])<|AF fun b3=>A3 Y<|A1<|Zo Wh (Pa #[_,_] HX E6 Y) ?_;refine Xr [_] Y call129 Y V (lG r.p r.q r.cap r.cs M X) ?_;refine Zm Y<|Zd Y V<|Zd Y V<|Za Y<|A3 Y<|Zq<|A1<|Zm Y<|Zv (IC Y Y)<|Zm Y<|Ai (t:=17) Y V (fun E=>?_) (fun E=>?_);·
  have g:¬GQ h r st:=fun m=>by unfold lH at E;rw [B0 m.1]at E;exact E rfl
  refine A7 Y V<|A7 Y V<|A7 Y V<|Zv (AR Y Y)<|Zm Y<|A7 Y V<|A7 Y V<|A7 Y V<|Zv (AR Y Y)<|Zm Y<|A7 Y V<|A7 Y V<|A7 Y V<|A7 Y V<|A7 Y V<|A7 Y V<|Zv (AR Y Y)<|Z0<|Zn [2,3,4,6,8,34] ?_;refine Zx<|CQ Y<|A1<|Zv (BQ (vs:=[]) (cs:=#[_,_,_]) Y (Aa (pl:=#[(0,1),(1,1),(2,1)]) J0 HD (fun _=>by kernel_rfl) rfl))<|Xe (BN DG Y Y HU Wu (by exact DD rfl) Ek Wb (by exact BU _)) ?_;refine A3 Y<|AA<|Zt<|CJ rfl results68 Y Wh (Ar HC DG Wn (BA rfl)) Y (by exact ⟨by unfold Jo;rw [As g];rfl,rfl⟩)
 have y:E9 r.p r.cs:=G2.1 fun m=>by unfold lH at E;rw [As m]at E;exact E AK
 have Z:=M7 y;have I:lH r.p r.cs=(Er r.p r.cs,0):=B0 y
 refine DF Y Wh (Pa #[_,_,_] HC DG Y) V rfl ?_;refine Xr [_] Y call67 Y V (TN h.p h.ch h.st) ?_;refine Yg (C9 Y)<|Zv (AL Y Y)<|Zm Y<|Ai (t:=22) Y V (fun h2=>?_) (fun h2=>?_);·
  have g:¬GQ h r st:=fun m=>h2 m.2.1;refine A7 Y V<|A7 Y V<|A7 Y V<|Zv (AR Y Y)<|Zm Y<|A7 Y V<|A7 Y V<|A7 Y V<|A7 Y V<|A7 Y V<|A7 Y V<|Zv (AR Y Y)<|Z0<|Zn [2,3,4,6,8,34] ?_;refine Zx<|CQ Y<|A1<|Zv (BQ (vs:=[]) (cs:=#[_,_,_]) Y (Aa (pl:=#[(0,1),(1,1),(2,1)]) J0 HD (fun _=>by kernel_rfl) rfl))<|Xe (BN DG Y Y HU Wu (by exact DD rfl) Ek Wb (by exact BU _)) ?_;refine A3 Y<|AA<|Zt<|CJ rfl results68 Y Wh (Ar HC DG Wn (BA rfl)) Y (by exact ⟨by unfold Jo;rw [As g];rfl,rfl⟩)
 have h2:=G2.1 h2;have U:=h2.1
 refine Zf Y Y<|Xr [_] Y call128 Y V (dR st) ?_;refine Yg (C9 Y)<|Zv (AL Y Y)<|Zm Y<|Ai (t:=27) Y V (fun G=>?_) (fun G=>?_);·
  have g:¬GQ h r st:=fun m=>G m.2.2.1;refine A7 Y V<|A7 Y V<|A7 Y V<|A7 Y V<|A7 Y V<|A7 Y V<|Zv (AR Y Y)<|Z0<|Zn [2,3,4,6,8,34] ?_;refine Zx<|CQ Y<|A1<|Zv (BQ (vs:=[]) (cs:=#[_,_,_]) Y (Aa (pl:=#[(0,1),(1,1),(2,1)]) J0 HD (fun _=>by kernel_rfl) rfl))<|Xe (BN DG Y Y HU Wu (by exact DD rfl) Ek Wb (by exact BU _)) ?_;refine A3 Y<|AA<|Zt<|CJ rfl results68 Y Wh (Ar HC DG Wn (BA rfl)) Y (by exact ⟨by unfold Jo;rw [As g];rfl,rfl⟩)
 have G:=G2.1 G;refine Yf 0 Ft V rfl A5 Y<|Yl AE Y ?_;refine Yf 0 HD V rfl A5 Y<|Yl AE Y ?_
 (refine DV Y (EU Y Y (IntWalk.i64_in _ ?_)) rfl rfl ?_;(focus (omega)))
 refine Yg (IC Y Y)<|Zv (AL Y Y)<|Z0<|Zn [2,3,4,6,8,34] ?_;refine Zx<|Ak Y (fun K=>?_) (fun K=>?_);·
  have g:¬GQ h r st:=fun m=>K m.2.2.2;refine A1<|Zv (BQ (vs:=[]) (cs:=#[_,_,_]) Y (Aa (pl:=#[(0,1),(1,1),(2,1)]) J0 HD (fun _=>by kernel_rfl) rfl))<|Xe (BN DG Y Y HU Wu (by exact DD rfl) Ek Wb (by exact BU _)) ?_;refine A3 Y<|AA<|Zt<|CJ rfl results68 Y Wh (Ar HC DG Wn (BA rfl)) Y (by exact ⟨by unfold Jo;rw [As g];rfl,rfl⟩)
 have W:GQ h r st:=⟨y,h2,G,by omega⟩;rw [I];refine AB<|Zx<|Zq<|BJ (n:=10) (0::1::0::4::0::28::0::127::255::511::[]) 288 AG AG V<|A2 0 V (AV (off:=0) Ft V rfl A5 Y)<|B2 1 V AE Y ?_;refine A2 2 V (AV (off:=1) HD V rfl CH Y)<|B2 3 V Fm Y ?_;refine A2 4 V (AJ Y)<|A2 6 V (AJ Y)<|Zz (l:=[5])<|BE [false,true] [(1,(_,_))] V rfl (Zu [_,_] Y call130 Y V (eu h.ch (Er r.p r.cs) (by have:=h2.2.1;have:=y.len;omega) J O)) ?_ (fun _ _ h=>h.elim) Ay;rintro _ _ ⟨rfl,rfl⟩;refine BT<|A2 7 rfl (BQ (vs:=[(0,_),(1,_),(2,_)]) (cs:=#[_,_,_]) Y (Aa (pl:=#[(0,1),(1,1),(2,1)]) J0 HD (fun _=>by kernel_rfl) rfl))<|Yw 8 511 rfl (BN DG Y Y (by(simp [Value.oneCell',Value.cells];done)) Wu (by exact DD rfl) Ek Wb (by exact BU _))<|C3<|A2 9 rfl (BF Y)<|Ao<|Zx<|AA<|CJ rfl results68 Y Wh (Ar HC DG Wn (BA rfl)) Y (by exact ⟨by unfold Jo;rw [B0 W];rfl,rfl⟩)
set_option maxHeartbeats 1000000 in
theorem Vv(a b:Ct){lv:A4}(hl:Cw M lv l)(Tg:AM)(zg:Nat×Nat):BC prog 28 #[.agg #[I4 a.p,.string (str a.ch),.string (str a.st)],lv,.agg #[I4 b.p,.string (str b.ch),.string (str b.st)]] [M,[(1,.cells (Di.map CB).toArray Tg zg)]] (.bool (decide (Ju a l b))):=by
 have gm:=mL;obtain ⟨pl,cl,rfl,⟨ek,d9⟩,hg⟩:=id hl;refine Se func28 ntmps28 [0,1,2] ?_;intro u R;refine A1<|Ze (Bx #[_,_,_])<|AF fun W=>Ze (Bx #[_,_,_])<|AF fun bb=>A3 Y<|aY ?_;refine Zb [1,3,5] ?_;refine CL (e0:=[]) (H0:=[]) (fun e H=>(True)/\e=[(7,.bool (decide (a.ok/\b.ok)))]/\H=[]) Wp ?hx_1 ?hy_1
 case hx_1=>
  refine Zg<|Zo Wh (A9 (cs:=#[_,_,_]) HC DG Y Wb (by exact BA V)) ?_;refine Xr [_] Y call67 Y V (TN a.p a.ch a.st) ?_;refine Zm Y<|Ai (t:=14) Y V (fun X=>?_) (fun X=>?_);·
   refine DF Y Wh (A9 (cs:=#[_,_,_]) HC DG Y Wb (by exact BA V)) V rfl ?_;refine Xr [_] Y call67 Y V (TN b.p b.ch b.st) ?_;refine Zv (AR Y Y)<|AH Y<|Zn [7,1,3,5] ?_;refine Aq (e':=[(7,_)]) (by exact ⟨trivial,by(rw [show decide (a.ok/\b.ok)=decide b.ok from decide_eq_decide.2 ⟨fun y=>y.2,fun y=>⟨X,y⟩⟩];rfl),V⟩)
  refine A7 Y V<|A7 Y V<|Zv (AL Y Y)<|AH Y<|Zn [7,1,3,5] ?_;refine Aq (e':=[(7,_)]) (by exact ⟨trivial,by(rw [Bm (show¬(a.ok/\b.ok) from fun y=>X y.1)]),V⟩)
 rintro _ _ ⟨_,rfl,rfl⟩;refine Zq<|aa<|Zx<|Zb [1,7,3,5] ?_;refine CL (e0:=[(1,_),(7,_)]) (H0:=[[(W,.cells #[I4 a.p,.string (str a.ch),.string (str a.st)] 48 (0,0))]]) (fun e H=>∃(ok:Bool) (h:Ct),((ok=decide (a.ok/\b.ok)/\IB b.st a l=some h)\/(ok=false/\IB b.st a l=none))/\e=[(7,.bool ok)]/\H=[[(W,.cells #[I4 h.p,.string (str h.ch),.string (str h.st)] 48 (0,0))]]) Wp ?hx_4 ?hy_4
 case hx_4=>
  refine A1<|Zm Y<|Zv (AP Fl Y)<|Zm Y<|AD<|AX<|Zb [7,20,3,5,18,19] ?_;refine BB (e0:=[(7,_),(20,_)]) (fun m e H=>∃(i:Nat) (h:Ct),m=l.length -i/\(i<=l.length/\IB b.st a (l.take i)=some h)/\e=[(7,.bool (decide (a.ok/\b.ok))),(20,I4 (i:Int))]/\H=[[(W,.cells #[I4 h.p,.string (str h.ch),.string (str h.st)] 48 (0,0))]]) (by exact ⟨0,a,rfl,⟨C2 _,by rw [Hj];rfl⟩,rfl,rfl⟩) Wp ?_;rintro _ _ _ ⟨i,h,rfl,⟨hi,U⟩,rfl,rfl⟩;refine A1<|Zv (Au Y Y)<|AD<|Zq<|Ak Y (fun Z=>?_) (fun Z=>?_);·
   obtain ⟨r,hr⟩:∃r,l[i]?=some r:=⟨_,zn A0⟩;obtain ⟨bf,g,off,cur,T,zz,rfl,af,cO,O⟩:=hg i r hr;refine AB<|Zx<|Zq<|AX<|A1<|Ap (AO Fl E6 Y Y CT)<|Ca (cs:=[(g,.cells cur T zz)]) (by simp [af]) (A9 (cs:=#[I4 r.p,.slice r.q r.cs.length r.cap]) HX E6 Y A0 O) rfl rfl ?_;refine Ze (Al Pc #[_,_])<|AF fun br=>Xe (Xw E6 #[I4 r.p,.slice r.q r.cs.length r.cap]) ?_;refine AD<|A1<|Zo Wh (A9 (cs:=#[_,_,_]) HC DG Y Wb (by exact BA V)) ?_;refine Zo Wh (A9 (cs:=#[_,_]) HX E6 Y Wb (by exact BA V)) ?_;refine Zh 2 HD V rfl CH Y<|Zl Fm Y ?_;refine Xr [_,_,_] Y call68 Y V (xH h r b.st bf Tg zg) ?_;refine Zm Y<|Zd Y V<|Zd Y V<|Ze (Al J0 #[_,_,_])<|AF fun bn=>Xe (Xw DG #[I4 (Jo h r b.st).1.p,.string (str (Jo h r b.st).1.ch),.string (str (Jo h r b.st).1.st)]) ?_;refine AH Y<|Zn [3,5,7,10,11,18,19,20] ?_;refine Zx<|Zq<|A1<|Zm Y<|Zv (IC Y Y)<|AD<|Ak Y (fun E=>?_) (fun E=>?_);·
    have hn:¬GQ h r b.st:=fun y=>by unfold Jo at E;rw [B0 y]at E;exact E rfl
    have cu:IB b.st a l=none:=bA (i:=i+1) (by rw [Nv U hr,As hn]);refine A1<|A3 Y<|Aw<|Zt<|Az V<|Zt<|Zt<|AQ<|Zn [7,3,5] ?_;refine Aq (e':=[(7,_)]) (by exact ⟨_,h,.inr ⟨V,cu⟩,V,V⟩)
   have hn:GQ h r b.st:=G2.1 fun y=>by unfold Jo at E;rw [As y]at E;exact E AK
   have ax:Jo h r b.st=(Gi h r b.st,0):=B0 hn;rw [ax];refine AB<|Zx<|Zg<|Zo Wh (A9 (cs:=#[_,_,_]) HC DG Y Wb (by exact BA V)) ?_;refine Xe (Xw DG #[I4 (Gi h r b.st).p,.string (str (Gi h r b.st).ch),.string (str (Gi h r b.st).st)]) ?_;refine Z0<|A8<|Zx<|Zg<|Ya (n:=1) Y Y<|Zm Y<|Z0<|Zn [7,20,3,5,18,19] ?_;refine AZ (e':=[(7,_),(20,_)]) (by exact ⟨i+1,Gi h r b.st,rfl,⟨by omega,by rw [Nv U hr,B0 hn]⟩,rfl,rfl⟩)
  have ei:i=l.length:=by omega
  subst ei;rw [G0]at U;refine Aw<|Zt<|Zt<|AQ<|Zn [7,3,5] ?_;refine Aq (e':=[(7,_)]) (by exact ⟨_,h,.inl ⟨V,U⟩,V,V⟩)
 rintro _ _ ⟨ok,h,K,rfl,rfl⟩;refine A1<|Zm Y<|Zm Y<|Ah (t:=37) Y V (fun h2=>?_) (fun h2=>?_);·
  have G:h=b↔Ju a l b:=by
   rcases K with⟨I,J⟩|⟨I,J⟩
   · rw [h2]at I
     have h5:=HH I.symm;exact ⟨fun y=>⟨h5.1,h5.2,by rw [J,y]⟩,fun y=>by have h6:=y.2.2;rw [J]at h6;injection h6⟩
   · rw [h2]at I;cases I
  refine DF Y Wh (A9 (cs:=#[_,_,_]) HC DG Y Wb (by exact BA V)) V rfl ?_;refine DF Y Wh (A9 (cs:=#[_,_,_]) HC DG Y Wb (by exact BA V)) V rfl ?_;refine Yg (oK AG Y Y (eqH h b)) ?_;refine Zv (AR Y Y)<|A3 Y<|AA<|Ls ?_;refine AC V results28 Y (by exact ⟨by exact GL G,V⟩)
 have G:¬Ju a l b:=fun y=>by
  rcases K with⟨I,J⟩|⟨I,J⟩
  · rw [h2]at I;exact N2 I.symm ⟨y.1,y.2.1⟩
  · rw [y.2.2]at J;cases J
 refine A7 Y V<|A7 Y V<|A7 Y V<|Zv (AL Y Y)<|A3 Y<|AA<|Ls ?_;refine AC V results28 Y (by exact ⟨by exact congrArg Value.bool (Bm G).symm,V⟩)
theorem uL(v:A4)(p:Int)(rs:List AY)(s:List AU)(hv:Pk v p rs s)(J:BL rs)(hn:rs.length<=2000)(y:∀r∈rs,r.ok)(t c lo hi:Int)(K:0<=t/\t<=3)(hc:0<=c/\c<=3)(m:lo<=hi)(g:AM)(E:Nat×Nat):
 Bz prog 48 #[v,I4 t,I4 c,I4 lo,I4 hi] [[(1,.cells (Di.map CB).toArray g E)],s] (fun r H'=>∃(z:RPZ) (mem:List AU),z.x=Eb rs t.toNat c.toNat lo hi/\z.ok mem/\r= .tuple #[.agg #[I4 z.x.tb,I4 z.x.cl,I4 z.x.lo,I4 z.x.hi,I4 z.x.ct,I4 z.x.fi,.slice z.qr z.x.rows.length z.cr,.slice z.qp z.x.paths.length z.cp,.slice z.qt z.x.roots.length z.ct],I4 0]/\H'=[mem,[(1,.cells (Di.map CB).toArray g E)],s]):=by
 have h:=bg v p rs s hv J hn y t.toNat c.toNat A0 A0 lo hi m g E;rw [show((t.toNat:Nat):Int)=t by omega,show((c.toNat:Nat):Int)=c by omega]at h;refine h.mono ?_;rintro r H' ⟨O,mem,rfl,I,rfl⟩;obtain ⟨z,G,h2,rfl⟩:=wh I;exact ⟨z,mem,G,h2,V,V⟩
theorem lZ(Z:List RPZ):∀u∈Z.flatMap El,u.oneCell'=true:=by
 intro u g;obtain ⟨z,_,h⟩:=N6.1 g;unfold El at h;simp only [E4,Mu,N3]at h;rcases h with rfl|rfl|rfl|rfl|rfl|rfl|rfl|rfl|rfl<;>rfl
theorem vg(Z:List RPZ):(Z.flatMap El).length=Z.length*9:=by
 induction Z with
 |nil=>rfl
 |cons z Z ih=>rw [HF,zq,ih,D3];show 9+_=_;omega
theorem O9(q:QM)(g:0<=q.bq/\q.bq<=3)(r:AY):BC prog 50 #[.agg #[I4 q.kd,I4 q.tb,I4 q.cl,I4 q.lo,I4 q.hi,I4 q.bq,I4 q.ot],.agg #[I4 r.t,I4 r.k,I4 r.v.a,I4 r.v.b,I4 r.v.c]] [] (.agg #[I4 q.ot,I4 0,I4 (Bh r q.bq),I4 (Bh r q.bq)]):=by
 refine Se func50 ntmps50 [0,1] ?_;intro u R;refine A1<|Ze (Bx #[I4 q.kd,I4 q.tb,I4 q.cl,I4 q.lo,I4 q.hi,I4 q.bq,I4 q.ot])<|AF fun bq=>Ze (Bx #[_,_,_,_,_])<|AF fun y=>Ze (Al cX #[_,_,_,_])<|AF fun m=>AD<|A1<|Zo Wh (A9 (cs:=#[_,_,_,_,_]) C7 Ax Y B5 (by exact BA V)) ?_;refine Zh 5 CN V rfl A5 Y<|Zl AE Y ?_;refine Xr [_,_] Y Q2 Y V (GU r q.bq g) ?_;refine A3 Y<|A1<|Zh 6 CN V rfl A5 Y<|Zl AE Y ?_;refine Zm Y<|Zm Y<|Zv (BQ (vs:=[(0,_),(1,_),(2,_),(3,_)]) (cs:=#[_,_,_,_]) Y (Aa (pl:=#[(0,1),(1,1),(2,1),(3,1)]) cX LS (fun _=>by kernel_rfl) rfl))<|Xe (BN V2 Y Y (by(simp [Value.oneCell',Value.cells];done)) Wu (by exact DD rfl) Ek AK (by exact BU _)) ?_;refine Z0<|Zn [4] ?_;refine Zx<|AA<|DI V results50 Y Wh (Ar isAgg114 V2 Wn (BA V)) (by exact ⟨V,V⟩)
theorem w9(v:A4)(p:Int)(rs:List AY)(s:List AU)(hv:Pk v p rs s)(hs:BL rs)(hn:rs.length<=2000)(U:∀r∈rs,r.ok)(t y lo hi:Int)(ht:0<=t/\t<=3)(hc:0<=y/\y<=3)(O:lo<=hi)(G:AM)(zg:Nat×Nat)(bs I:Nat){Z:List RPZ}{g:B7}{c:Nat}{E:List AU}(W:BZ 9 87 (.slice g Z.length c) Z.length (Z.flatMap El) E)(hZ:Z.length<=1000000):Bz prog 47 #[.agg #[I4 t,I4 y,I4 lo,I4 hi],I5 bs,I5 I] [[(1,.cells (Di.map CB).toArray G zg)],s,[(bs,.cells #[v] 49 (0,0))],[(I,.cells #[.slice g Z.length c] 33 (0,0))],E] (fun r H'=>r=undef/\∃(z:RPZ) (mem:List AU) (g:B7) (c:Nat) (E:List AU),z.x=Eb rs t.toNat y.toNat lo hi/\z.ok mem/\BZ 9 87 (.slice g (Z.length+1) c) (Z.length+1) ((Z++[z]).flatMap El) E/\H'=[mem,E,[(1,.cells (Di.map CB).toArray G zg)],s,[(bs,.cells #[v] 49 (0,0))],[(I,.cells #[.slice g (Z.length+1) c] 33 (0,0))]]):=by
 have bn:=mL;obtain ⟨sp,mb,es,ck,lm,rfl,bf⟩:=id hv;refine Se func47 ntmps47 [0,1,2] ?_;intro u R;refine A1<|Ze (Bx #[_,_,_,_])<|AF fun bx=>AD<|A1<|Zl isAgg49 Y ?_;refine Zh 0 LS V rfl A5 Y<|Zl AE Y ?_;refine Zh 1 LS V rfl A5 Y<|Zl AE Y ?_;refine Zh 2 LS V rfl A5 Y<|Zl AE Y ?_;refine Zh 3 LS V rfl A5 Y<|Zl AE Y ?_;refine Zc [_,_,_,_,_] Y call48 Y V (uL _ p rs s hv hs hn U t y lo hi ht hc O G zg) ?_;rintro _ _ ⟨_,⟨z,mem,af,X,rfl,rfl⟩,rfl⟩;refine Zm Y<|Zd Y V<|Zd Y V<|Ze (Al P0 #[_,_,_,_,_,_,_,_,_])<|AF fun bp=>Xe (Xw DE #[I4 z.x.tb,I4 z.x.cl,I4 z.x.lo,I4 z.x.hi,I4 z.x.ct,I4 z.x.fi,.slice z.qr z.x.rows.length z.cr,.slice z.qp z.x.paths.length z.cp,.slice z.qt z.x.roots.length z.ct]) ?_;refine AH Y<|Zn [2,4] ?_;refine Zx<|Zg<|Zl E0 Y ?_;refine Zo Wh (A9 (cs:=#[_,_,_,_,_,_,_,_,_]) LI DE Y B5 An) ?_;refine Ze (Af (vs:=[_]) (cs:=[_,_,_,_,_,_,_,_,_]) DQ DE P0 Y V rfl V rfl V)<|AF fun gb=>Ze (BR (by_:=120) (sz:=9) DQ (V:Tryz.prog.info? 87=some Tryz.t87) V rfl V rfl Y (W) Y (Dy 9 gb 1 1 87 (0,0) (El z) V) Wo Wo (by have:=lZ [z];simpa using this) A0 A0) ?_;rintro _ _ ⟨ax,m,rfl⟩;obtain ⟨K,J,rfl⟩:=m.form;refine Xe (Zs DB Y Y V (hi:=by(simp;done))) ?_;refine Z0<|GX rfl results47 (by exact ⟨rfl,z,mem,K,J,ax,af,X,BH m rfl (by rw [Ly];simp),rfl⟩)
set_option maxHeartbeats 1000000 in
theorem xI(v:A4)(p:Int)(rs:List AY)(s:List AU)(hv:Pk v p rs s)(hs:BL rs)(hn:rs.length<=2000)(gq:∀r∈rs,r.ok)(q:QM)(hq:BS q)(hl:(CX rs q).length<=100)(Tg:AM)(zg:Nat×Nat):Bz prog 17 #[v,.agg #[I4 q.kd,I4 q.tb,I4 q.cl,I4 q.lo,I4 q.hi,I4 q.bq,I4 q.ot]] [[(1,.cells (Di.map CB).toArray Tg zg)],s] (fun w H'=>∃vo mem,w= .tuple #[vo,I4 0]/\FE mem vo (Em rs q)/\H'=[mem,[(1,.cells (Di.map CB).toArray Tg zg)],s]):=by
 have qb:=mL;obtain ⟨sp,mb,es,ck,lm,rfl,q8⟩:=id hv;have cO:=hq.2.1
 have p8:=@Lf rs q.tb q.cl.toNat q.lo q.hi;have o8:0<=q.bq/\q.bq<=3:=by have:=hq.2.2.2;omega
 have o9:0<=q.ot/\q.ot<=3:=by have:=hq.2.2.2;omega
 refine Se func17 ntmps17 [0,1] ?_;intro u R;refine A1<|Ze (Bx #[_])<|AF fun bs=>Ze (Bx #[I4 q.kd,I4 q.tb,I4 q.cl,I4 q.lo,I4 q.hi,I4 q.bq,I4 q.ot])<|AF fun bq=>Za Y<|A3 Y<|Zq<|AX<|A1<|Zl isAgg49 Y ?_;refine Zv (Ef ao Y Y)<|A3 Y<|Ad Y (fun bn=>by cases bn)<|fun bn=>A1<|Zo Wh (A9 (cs:=#[_,_,_,_,_,_,_]) F2 CM Y B5 An) ?_;refine Xr [_] Y call33 Y V (KC q) ?_;refine Zv (C9 Y)<|A3 Y<|Ad Y (fun cu=>?_) (fun cu=>?_);·
  exfalso;simp [hq]at cu
 refine AB<|A8<|Zx<|A1<|Ze (Al zeroValue33 #[_])<|AF fun bo=>AD<|A1<|Zv (Bt (vs:=[]) (us:=[_,_]) Y Y)<|AH Y<|Zn [2,3,6,7] ?_;refine Zx<|A1<|Zo Wh (A9 (cs:=#[_,_,_,_,_,_,_]) F2 CM Y B5 An) ?_;refine Xr [_] Y call49 Y V (xE q hq) ?_;refine Ze (Al cX #[_,_,_,_])<|AF fun bx=>Xe (Xw V2 #[I4 q.tb,I4 q.cl,I4 q.lo,I4 q.hi]) ?_;refine AD<|A1<|Zl isAgg49 Y ?_;refine Zh 0 LS V rfl A5 Y<|Zl AE Y ?_;refine Zh 1 LS V rfl A5 Y<|Zl AE Y ?_;refine Zh 2 LS V rfl A5 Y<|Zl AE Y ?_;refine Zh 3 LS V rfl A5 Y<|Zl AE Y ?_;refine Zc [_,_,_,_,_] Y call35 Y V (Uw _ p rs s hv q.tb q.cl q.lo q.hi cO) ?_;rintro _ _ ⟨_,⟨s1,h1,rfl⟩,rfl⟩;rw [show Cg rs q.tb q.cl.toNat q.lo q.hi=CX rs q from rfl]at h1 p8;obtain ⟨p1,c1,rfl⟩:=h1.form;obtain ⟨p7,pq,e7,⟨qa,pz⟩,lv⟩:=id (D6 h1 A0);injection e7 with e71 e72 e73
 subst e71 e73;refine AH Y<|Zn [3,6,7,8,9] ?_;refine Zx<|Zq<|A1<|Zm Y<|Zv (AP B4 Y)<|Zv (CO (n:=100) Y Y)<|AD<|Ak Y (fun l9=>by omega)<|fun l9=>AB<|Zx<|Zq<|Bl<|Zg<|Zm Y<|Zo Wh (A9 (cs:=#[_,_,_,_]) isAgg114 V2 Y B5 An) ?_;refine Zc [_] Y call47 Y V (w9 _ p rs s hv hs hn gq q.tb q.cl q.lo q.hi hq.1 cO hq.2.2.1.2.1 Tg zg bs bo (Z:=[]) (Ba 9 _) (C2 _)) ?_;rintro _ _ ⟨_,⟨rfl,z0,I,g0,c0,ax,kz,W,U,rfl⟩,rfl⟩;refine AD<|Zb [3,7,9,6] ?_;refine CL (e0:=[(3,_),(7,_),(9,_)]) (H0:=[[(bo,.cells #[.slice g0 (([]:List RPZ).length+1) c0] 33 (0,0))],ax,I]) (fun e H=>∃(Z:List RPZ) (g:B7) (c:Nat) (J E:List AU),(Z.map RPZ.x=Em rs q/\(∀z∈Z,z.ok E)/\BZ 9 87 (.slice g Z.length c) Z.length (Z.flatMap El) J/\Z.length<=1000)/\e=[]/\H=[[(bo,.cells #[.slice g Z.length c] 33 (0,0))],J,E]) Wp ?hx_1 ?hy_1
 case hx_1=>
  refine A1<|Zh 0 CN V rfl A5 Y<|Zl AE Y ?_;refine Zv (Br Y Y)<|AD<|Ak Y (fun af=>?_) (fun af=>?_);·
   refine A1<|Zm Y<|Zv (AP B4 Y)<|Zm Y<|AD<|AX<|Zb [43,3,6,7,41,42] ?_;refine BB (e0:=[(43,_)]) (fun m e H=>∃(k:Nat) (Z:List RPZ) (g:B7) (c:Nat) (J E:List AU),m=(CX rs q).length -k/\(k<=(CX rs q).length/\Z.map RPZ.x=Eb rs q.tb.toNat q.cl.toNat q.lo q.hi::((CX rs q).take k).map (fun r=>Eb rs q.ot.toNat 0 (Bh r q.bq) (Bh r q.bq))/\(∀z∈Z,z.ok E)/\Z.length=k+1/\BZ 9 87 (.slice g Z.length c) Z.length (Z.flatMap El) J)/\e=[(43,I4 (k:Int))]/\H=[[(bo,.cells #[.slice g Z.length c] 33 (0,0))],J,E]) (by exact ⟨0,[z0],g0,c0,ax,I,rfl,⟨C2 _,by rw [Hj,LR,LL,kz],fun z hz=>by rw [D0.1 hz];exact W,rfl,U⟩,rfl,rfl⟩) Wp ?_;rintro _ _ _ ⟨k,Z,g,c,J,E,rfl,⟨hk,G,K,bf,O⟩,rfl,rfl⟩;refine A1<|Zv (Au Y Y)<|AD<|Zq<|Ak Y (fun gm=>?_) (fun gm=>?_);·
    obtain ⟨y,gy⟩:∃y,(CX rs q)[k]?=some y:=⟨_,zn gm⟩;obtain ⟨g8,off,cur,T,zz,rfl,mR,q9,d9⟩:=lv k y gy;refine AB<|Zx<|Zq<|AX<|A1<|Ap (AO B4 Ax Y Y A0)<|Ca (cs:=[(g8,.cells cur T zz)]) (by simp [mR]) (A9 (cs:=#[I4 y.t,I4 y.k,I4 y.v.a,I4 y.v.b,I4 y.v.c]) C7 Ax Y A0 d9) V rfl ?_;refine Ze (Al Dd #[_,_,_,_,_])<|AF fun bx=>Xe (Xw Ax #[I4 y.t,I4 y.k,I4 y.v.a,I4 y.v.b,I4 y.v.c]) ?_;refine AD<|Zg<|Zm Y<|Zo Wh (A9 (cs:=#[_,_,_,_,_,_,_]) F2 CM Y B5 An) ?_;refine Zo Wh (A9 (cs:=#[_,_,_,_,_]) C7 Ax Y B5 An) ?_;refine Xr [_,_] Y call50 Y V (O9 q o8 y) ?_;refine Zc [_] Y call47 Y V (w9 _ p rs s hv hs hn gq q.ot 0 (Bh y q.bq) (Bh y q.bq) o9 A0 (cT _) Tg zg bs bo O A0) ?_;rintro _ _ ⟨_,⟨rfl,z5,X,g5,c5,pg,p9,l8,kv,rfl⟩,rfl⟩;refine Z0<|A8<|Zx<|NZ (s1:=X) (s2:=E) Wo Wo ?_;refine Zg<|Ya (n:=1) Y Y<|Zm Y<|Z0<|Zn [43,3,6,7,41,42] ?_;refine AZ (e':=[(43,_)]) (by exact ⟨k+1,Z++[z5],g5,c5,pg,X++E,rfl,⟨by omega,by rw [Dg,G,C8 gy,Dg,LL,p9];rfl,fun z hz=>by rcases DM.1 hz with h9|h9;exact (K z h9).mono (fun c hc=>DA _ hc);rw [D0.1 h9];exact l8.mono (fun c hc=>E3 _ hc),by rw [zq,bf];rfl,by rw [zq];exact kv⟩,rfl,by rw [zq]⟩)
   have ek:k=(CX rs q).length:=by omega
   subst ek;rw [G0]at G;refine Aw<|Zt<|Zt<|AQ<|Zn [6] ?_;refine Aq (e':=[]) (by exact ⟨Z,_,_,J,E,⟨by unfold Em;rw [B0 af];exact G,K,O,by omega⟩,rfl,rfl⟩)
  refine AB<|Zn [6] ?_;refine Aq (e':=[]) (by exact ⟨[z0],g0,c0,ax,I,⟨by unfold Em;rw [As af,LL,kz],fun z hz=>by rw [D0.1 hz];exact W,U,by simp⟩,rfl,rfl⟩)
 rintro _ _ ⟨Z,g,c,J,E,⟨G,K,O,bf⟩,rfl,rfl⟩;refine Zq<|NZ (s1:=J) (s2:=E) Wo Wo ?_;refine Zg<|Zl E0 Y ?_;refine Za Y<|A3 Y<|AA<|Dv rfl results17 Y Y (by exact ⟨.slice g Z.length c,J++E,rfl,by rw [<-G];exact YE O A0 K,rfl⟩)
theorem pI{sp:Nat}{s:List AU}(q:QM)(y:¬BS q):BC prog 17 #[I5 sp,.agg #[I4 q.kd,I4 q.tb,I4 q.cl,I4 q.lo,I4 q.hi,I4 q.bq,I4 q.ot]] [] (.tuple #[.slice none 0 0,I4 50]):=by
 refine Se func17 ntmps17 [0,1] ?_;intro u R;refine A1<|Ze (Bx #[_])<|AF fun bs=>Ze (Bx #[I4 q.kd,I4 q.tb,I4 q.cl,I4 q.lo,I4 q.hi,I4 q.bq,I4 q.ot])<|AF fun bq=>Za Y<|A3 Y<|Zq<|AX<|A1<|Zl isAgg49 Y ?_;refine Zv (Ef ao Y Y)<|A3 Y<|Ad Y (fun g=>by cases g)<|fun g=>A1<|Zo Wh (A9 (cs:=#[_,_,_,_,_,_,_]) F2 CM Y B5 An) ?_;refine Xr [_] Y call33 Y V (KC q) ?_;refine Zv (C9 Y)<|A3 Y<|Ad Y (fun m=>?_) (fun m=>?_);·
  refine A1<|Za Y<|AH Y<|Zn [4,5] ?_;refine Zx<|AA<|Ab<|Zt<|Dv V results17 Y Y (by exact ⟨V,V⟩)
 exfalso;simp [y]at m
set_option maxHeartbeats 1000000 in
theorem nW{Z:B7}{m:Nat}{x:RP}{L:List RP}(hL:FE M (.slice Z (L.length+1) m) (x::L))(E:Fp x){t c lo hi:Int}(y:x.scan=(t,c,lo,hi))(K:Nat):Bz prog 102 #[I5 K,.agg #[I4 t,I4 c,I4 lo,I4 hi]] [[(K,.cells #[.slice Z (L.length+1) m] 174 (0,0))],M] (fun r H'=>∃sr,BZ 5 98 r (ES x).length (Ac (ES x)) sr/\H'=[sr,[(K,.cells #[.slice (EF Z 1 m 9) L.length (m -1)] 174 (0,0))],M]):=by
 have bf:=mL;obtain ⟨p8,af,e9,O,I⟩:=hL.form;injection e9 with e91 e92 e93
 subst e91 e93;rw [D3]at O I;obtain ⟨z,X,W,g,off,cur,T,zz,rfl,U,ax,G⟩:=hL.at (i:=0) rfl;subst X;unfold RP.scan at y;injection y with hd1 y
 injection y with hd2 y
 injection y with hd3 hd4
 refine Se func102 ntmps102 [0,1] ?_;intro u R;refine A1<|Ze (Bx #[_,_,_,_])<|AF fun bx=>A3 Y<|A1<|Zm Y<|Zp Y V<|Zh 0 PJ V rfl DB Y<|Zl E0 Y ?_;refine Zv (AP DQ Y)<|Zv (CO (n:=0) Y Y) ?_;rw [CA (show(0:Nat)<L.length+1 by omega)];refine Xr [_] Y Q1 Y V (LU) ?_;refine AD<|A1<|Zm Y<|Zp Y V<|Zh 0 PJ V rfl DB Y<|Zl E0 Y ?_;refine Ap (AO (j:=0) DQ DE Y Y A0)<|Ca (cs:=[(g,.cells cur T zz)]) (by simp [U]) (A9 (cs:=#[I4 z.x.tb,I4 z.x.cl,I4 z.x.lo,I4 z.x.hi,I4 z.x.ct,I4 z.x.fi,.slice z.qr z.x.rows.length z.cr,.slice z.qp z.x.paths.length z.cp,.slice z.qt z.x.roots.length z.ct]) LI DE Y A0 G) V rfl ?_;refine Ze (Al P0 #[_,_,_,_,_,_,_,_,_])<|AF fun bp=>Xe (Xw DE #[I4 z.x.tb,I4 z.x.cl,I4 z.x.lo,I4 z.x.hi,I4 z.x.ct,I4 z.x.fi,.slice z.qr z.x.rows.length z.cr,.slice z.qp z.x.paths.length z.cp,.slice z.qt z.x.roots.length z.ct]) ?_;refine Z0<|Zn [0,3,5] ?_;refine Zx<|A1<|Zm Y<|Zm Y<|Zp Y V<|Zh 0 PJ V rfl DB Y<|Zl E0 Y ?_;refine Ap (Bn (l:=1) DQ DE Y Y A0)<|Zp Y V<|Zh 0 PJ V rfl DB Y<|Xe (Zs DB Y Y V (hi:=by(simp;done))) ?_;refine AD<|A1<|Zh 0 C1 V rfl A5 Y<|Zl AE Y (hv:=by exact (V:_=some (Value.int .i64 z.x.tb))) ?_;refine Zh 1 C1 V rfl A5 Y<|Zl AE Y (hv:=by exact (V:_=some (Value.int .i64 z.x.cl))) ?_;refine Zh 2 C1 V rfl A5 Y<|Zl AE Y (hv:=by exact (V:_=some (Value.int .i64 z.x.lo))) ?_;refine Zh 3 C1 V rfl A5 Y<|Zl AE Y (hv:=by exact (V:_=some (Value.int .i64 z.x.hi))) ?_;refine Zv (BQ (vs:=[(0,I4 z.x.tb),(1,I4 z.x.cl),(2,I4 z.x.lo),(3,I4 z.x.hi)]) (cs:=#[I4 z.x.tb,I4 z.x.cl,I4 z.x.lo,I4 z.x.hi]) Y (Aa (pl:=#[(0,1),(1,1),(2,1),(3,1)]) cX LS (fun _=>by kernel_rfl) AG))<|Zo Wh (A9 (cs:=#[I4 t,I4 c,I4 lo,I4 hi]) isAgg114 V2 Y B5 An) ?_;refine Zv (R8 AG LS AG AK AK AK AK F0 AE Y Y) ?_;rw [CA (show z.x.tb=t/\z.x.cl=c/\z.x.lo=lo/\z.x.hi=hi from⟨hd1,hd2,hd3,hd4⟩)];refine Xr [_] Y Q1 Y V (LU) ?_;refine Z0<|Zn [5] ?_
 refine Zx<|A1<|Zo Wh (A9 (cs:=#[I4 z.x.tb,I4 z.x.cl,I4 z.x.lo,I4 z.x.hi,I4 z.x.ct,I4 z.x.fi,.slice z.qr z.x.rows.length z.cr,.slice z.qp z.x.paths.length z.cp,.slice z.qt z.x.roots.length z.ct]) LI DE Y B5 An) ?_;refine Zc [_] Y call156 Y V (ww W.rp E V) ?_;rintro _ _ ⟨_,⟨vr,sr,rfl,J,rfl⟩,rfl⟩;obtain ⟨gr,c9,rfl⟩:=J.form;refine Zm Y<|Zd Y V<|Zd Y V<|Za Y<|A3 Y<|A1<|Zm Y<|Xr [_] Y Q1 Y V (LU) ?_;refine AD<|A1<|Zm Y<|A3 Y<|AA<|AC V results102 Y (by exact ⟨sr,J,V⟩)
theorem Ki{x:RP}(h:Fp x):(ES x).length<=2000/\∀r∈ES x,r.ok:=by
 have y:=h.ct;have h2:=h.fi
 have E:=h.n;rw [Q6 h];refine ⟨by have:=SJ (inB x) x.rows;omega,fun r m=>?_⟩;obtain ⟨j,g⟩:=H4 (MD.1 m).1;exact (h.all j r g).1.1
theorem Ty{α:Type}{l:List α}{k:Nat}{x:α}(h:l[k]?=some x):l.drop k=x::l.drop (k+1):=by
 obtain ⟨g,rfl⟩:=zt.1 h;exact RC g
set_option maxHeartbeats 1000000 in
theorem tu{v:A4}{L:List RP}(hL:FE M v L)(q:QM){r:CP}(hr:Cz q L=some r):Bz prog 43 #[.agg #[I4 q.kd,I4 q.tb,I4 q.cl,I4 q.lo,I4 q.hi,I4 q.bq,I4 q.ot],v] [M] (fun w H'=>∃rv sr,w= .tuple #[.agg #[rv,I4 r.val,.bool r.fnd],.bool true]/\BZ 5 98 rv r.rows.length (Ac r.rows) sr/\H'=[sr,M]):=by
 have qz:=mL;obtain ⟨x,L2,rfl,hq,qa,K,p9,J⟩:=K5 hr;obtain ⟨pv,cv,rfl,_⟩:=hL.form;rw [D3]at hL;rw [D3];have hT:=hL.tail
 rw [PA]at hT;have pz:0<=q.bq/\q.bq<=3:=by have:=hq.2.2.2;omega
 refine GA func43 V ntmps43 V ?_;intro u R;refine Zb [0,1] ?_;refine A1<|Ze (Bx #[I4 q.kd,I4 q.tb,I4 q.cl,I4 q.lo,I4 q.hi,I4 q.bq,I4 q.ot])<|AF fun bq=>Ze (Al GW #[_,_,_])<|AF fun bo=>Ze (Al ar #[_])<|AF fun bk=>AD<|A1<|Zv (Bt (vs:=[]) (us:=[_,_]) Y Y)<|Ve V Y ?_;refine AD<|A1<|Xe (Zs Cl Y Y V (hi:=by decide)) ?_;refine AD<|A1<|TE V Y ?_;refine AD<|A1<|Zo Wh (A9 (cs:=#[_,_,_,_,_,_,_]) F2 CM Y B5 An) ?_;refine Xr [_] Y call33 Y V (KC q) ?_;rw [CA hq];refine Xr [_] Y Q1 Y V (LU) ?_;refine AD<|A1<|Zm Y<|Zv (BQ (vs:=[(0,_)]) (cs:=#[_]) Y (Aa (pl:=#[(0,1)]) zeroValue174 PJ (fun _=>by kernel_rfl) V))<|Ze (Bx #[_])<|AF fun br=>AH Y<|Zn [2,4,5,6] ?_;refine Zx<|A1<|Zm Y<|Zo Wh (A9 (cs:=#[_,_,_,_,_,_,_]) F2 CM Y B5 An) ?_;refine Xr [_] Y call49 Y V (xE q hq) ?_;refine Zc [_,_] Y call102 Y V (nW hL K qa br) ?_;rintro _ _ ⟨_,⟨sr,kz,rfl⟩,rfl⟩;obtain ⟨gr,qo,rfl⟩:=kz.form;have d9:=D6 kz A0
 obtain ⟨p7,qc,e7,⟨qx,qd⟩,p8⟩:=id d9;injection e7 with e71 e72 e73
 subst e71 e73;refine A3 Y<|A1<|Zm Y<|Zv (AP B4 Y)<|Zv (L6 (n:=100) Y Y) ?_;rw [CA (show(ES x).length<=100 by omega)];refine Xr [_] Y Q1 Y V (LU) ?_;refine AD<|Zq<|Bl<|Zg<|A3 Y<|Zb [8,2,4,5,6,7] ?_;refine CL (e0:=[(8,_)]) (H0:=[[(br,.cells #[_] 174 (0,0))],[]]) (fun e H=>∃(o:List AY) (vo:A4) (so:List AU) (pr:B7) (cr:Nat),(r=EZ q (ES x) o/\BZ 5 98 vo o.length (Ac o) so/\o.length<=200000)/\e=[(8,vo)]/\H=[[(br,.cells #[.slice pr 0 cr] 174 (0,0))],so]) Wp ?hx_1 ?hy_1
 case hx_1=>
  refine A1<|Zh 0 CN V rfl A5 Y<|Zl AE Y ?_;refine Zv (Br Y Y)<|AD<|Ak Y (fun bf=>?_) (fun bf=>?_);·
   obtain ⟨O,X,af⟩:∃o,EB q (ES x) L2=some (o,[])/\r=EZ q (ES x) o:=by rcases J with⟨h9,_⟩|⟨_,h9⟩;exact absurd bf h9;exact h9
   refine A1<|Zm Y<|Zv (AP B4 Y)<|Zm Y<|AD<|AX<|Zb [8,31,2,4,5,6,7,29,30] ?_;refine BB (e0:=[(8,_),(31,_)]) (fun m e H=>∃(k:Nat) (o:List AY) (l9:List RP) (vo:A4) (so:List AU) (pr:B7) (cr:Nat),m=(ES x).length -k/\(k<=(ES x).length/\EB q ((ES x).take k) L2=some (o,l9)/\BZ 5 98 vo o.length (Ac o) so/\FE M (.slice pr l9.length cr) l9/\o.length<=2000*k)/\e=[(8,vo),(31,I4 (k:Int))]/\H=[[(br,.cells #[.slice pr l9.length cr] 174 (0,0))],so]) (by exact ⟨0,[],L2,.slice none 0 0,[],_,_,V,⟨C2 _,V,Ba 5 _,hT,C2 _⟩,V,V⟩) Wp ?_;rintro _ _ _ ⟨k,o,l9,vo,so,pr,cr,rfl,⟨hk,G,I,ax,qA⟩,rfl,rfl⟩;obtain ⟨go,co,rfl⟩:=I.form;refine A1<|Zv (Au Y Y)<|AD<|Zq<|Ak Y (fun gy=>?_) (fun gy=>?_);·
    obtain ⟨y,bn⟩:∃y,(ES x)[k]?=some y:=⟨_,zn gy⟩;obtain ⟨g,off,cur,T,zz,rfl,pq,qg,gm⟩:=p8 k y bn;obtain ⟨o8,l8,U,o9,cu,_⟩:=Le (ES x) k L2 (O,[]) A0 X;rw [G]at U;injection U with U
    injection U with h83 h84
    subst h83 h84;rw [Ty bn]at cu;obtain ⟨a9,c9,cO,_,_⟩:=Iu cu;obtain ⟨x2,gq,kv,E,W⟩:=Ji cO;have pg:=(Ki E).1
    have qb:=Mc (ES x) k y L2 _ _ a9 bn G cO;rw [gq,D3];rw [gq,D3]at ax;refine AB<|Zx<|Zq<|AX<|A1<|Ap (AO B4 Ax Y Y A0)<|Ca (cs:=[(g,.cells cur T zz)]) (by simp [pq]) (A9 (cs:=#[I4 y.t,I4 y.k,I4 y.v.a,I4 y.v.b,I4 y.v.c]) C7 Ax Y A0 gm) V rfl ?_;refine Ze (Al Dd #[_,_,_,_,_])<|AF fun bx=>Xe (Xw Ax #[I4 y.t,I4 y.k,I4 y.v.a,I4 y.v.b,I4 y.v.c]) ?_;refine AD<|Zg<|Zm Y<|Zm Y<|Zo Wh (A9 (cs:=#[_,_,_,_,_,_,_]) F2 CM Y B5 An) ?_;refine Zo Wh (A9 (cs:=#[_,_,_,_,_]) C7 Ax Y B5 An) ?_;refine Xr [_,_] Y call50 Y V (O9 q pz y) ?_;refine Zc [_,_] Y call102 Y V (nW ax E kv br) ?_;rintro _ _ ⟨_,⟨s5,h5,rfl⟩,rfl⟩;rw [<-W]at h5;obtain ⟨g5,c5,rfl⟩:=h5.form;refine Ze (BR (by_:=40) (sz:=5) B4 (rfl:Tryz.prog.info? 98=some Tryz.t98) rfl rfl rfl rfl Y (I) Y (Ig h5) Wo Wo (by exact CE _) (by rw [W];omega) (by rw [W];omega)) ?_;rintro _ _ ⟨tT,Z,rfl⟩;obtain ⟨qw,qh,rfl⟩:=Z.form;refine AH Y<|Zn [2,4,5,6,7,8,29,30,31] ?_;refine A8<|Zx<|Zg<|Ya (n:=1) Y Y<|Zm Y<|Z0<|Zn [8,31,2,4,5,6,7,29,30] ?_;refine AZ (e':=[(8,_),(31,_)]) (by exact ⟨k+1,o++a9.1,a9.2,_,_,_,_,rfl,⟨by omega,qb,BH Z (by rw [zq]) (by rw [Bf]),ax.tail,by rw [zq,W];omega⟩,rfl,rfl⟩)
   have ek:k=(ES x).length:=by omega
   subst ek;rw [G0,X]at G;injection G with G
   injection G with hrd1 hrd2
   subst hrd1 hrd2;have sw:=af
   refine Aw<|Zt<|Zt<|AQ<|Zn [8,2,4,5,6,7] ?_;refine Aq (e':=[(8,_)]) (by exact ⟨O,.slice go O.length co,so,pr,cr,⟨af,I,by omega⟩,V,V⟩)
  obtain ⟨lv,q9⟩:L2=[]/\r=EZ q (ES x) []:=by rcases J with⟨_,h9⟩|⟨h9,_⟩;exact h9;exact absurd h9 bf
  subst lv;refine AB<|Zn [8,2,4,5,6,7] ?_;refine Aq (e':=[(8,_)]) (by exact ⟨[],.slice none 0 0,[],EF pv 1 cv 9,cv -1,⟨q9,Ba 5 _,C2 _⟩,V,V⟩)
 rintro _ _ ⟨o,vo,so,pr,cr,⟨q8,I,sj⟩,rfl,rfl⟩;obtain ⟨go,co,rfl⟩:=I.form;have mR:=D6 I A0
 refine A1<|Zm Y<|Zp Y V<|Zh 0 PJ V rfl DB Y<|Zl E0 Y ?_;refine Zv (AP DQ Y)<|Zv (Bb (n:=0) Y Y) ?_;rw [CA (show(0:Nat)=0 from rfl)];refine Xr [_] Y Q1 Y V (LU) ?_;refine AD<|A1<|Zo Wh (A9 (cs:=#[_,_,_,_,_,_,_]) F2 CM Y B5 An) ?_;refine Zm Y<|Zm Y<|Zc [_,_,_] Y call34 Y V (TZ d9 mR q A0 (fun _ r hr=>NF ((Ki K).2 r hr) q.bq)) ?_;rintro _ _ ⟨_,⟨sO,s3,rfl,h3,rfl⟩,rfl⟩;rw [MO hq,<-q8]at h3⊢;obtain ⟨p3,c3,rfl⟩:=h3.form;refine Xe (Xw B6 #[.slice p3 r.rows.length c3,I4 r.val,.bool r.fnd]) ?_;refine Xe (Zs Cl Y Y V (hi:=by decide)) ?_;refine Z0<|Zn [4,5] ?_;refine Zx<|AA<|Z4 V rfl call100 (iX _) V call99 (mr bk _) Wp ?_;rintro _ rfl;refine ⟨_,[s3,M],fun a w hf hs=>F8 bj ((Bi a _ hf 4).trans rfl) (Ar CC B6 (by exact B8 _) (cs:=#[.slice p3 r.rows.length c3,I4 r.val,.bool r.fnd]) (BA rfl) w (F3 (b:=bo) Wh hs)) ((Bi a _ hf 5).trans rfl) (GJ DH (v:= .bool true) (i:=0) rfl w (F3 (b:=bk) Wh hs)),⟨_,s3,rfl,h3,rfl⟩,Sub.amid (by repeat(first|exact Sub.refl _|exact Sub.nil _|(apply Sub.cons;(focus (repeat(first|exact One.here _ _|apply One.there))))|refine Sub.drop _ ?_))⟩
end Go.Proofs.YtlkdhannldcfbaaGreatDoor
