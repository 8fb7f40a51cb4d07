/- Heads, changes, records, proofs compared. -/
import Derived.Test.YtlkdhannldcfbabGreatDoorLg13
set_option linter.unusedVariables false
set_option linter.unusedSimpArgs false
namespace Go.Proofs.YtlkdhannldcfbabGreatDoor
open Go.Proofs.Tryz
open Go Go.RowKit Gw
set_option maxRecDepth 100000
attribute [local irreducible] Gw.At Gw.Nx Gw.Ops
noncomputable instance(a b:Cw):Decidable (a=b):=Classical.propDecidable _
def Cw.ok(h:Cw):Prop:=(0<=h.p/\h.p<=10000)/\h.ch.length=32/\h.st.length=32
instance(h:Cw):Decidable h.ok:=inferInstanceAs(Decidable (_/\_))
theorem mH{x y:Cw}:x=y↔x.p=y.p/\x.ch=y.ch/\x.st=y.st:=by
 obtain ⟨a,b,c⟩:=x;obtain ⟨d,e,f⟩:=y;simp only [Cw.mk.injEq]
theorem eqH(x y:Cw):EqT prog 3 66 (.agg #[I4 x.p,.string (str x.ch),.string (str x.st)]) (.agg #[I4 y.p,.string (str y.ch),.string (str y.st)]) (decide (x=y)):=
 Oh OK AD (.cons B0 (Ci AE rfl) (Ci AE rfl) (IW D3 _ _)<| .cons B0 (Ci H3 rfl) (Ci H3 rfl) (mP GW _ _)<| .cons B0 (Ci H3 rfl) (Ci H3 rfl) (mP GW _ _)<| .nil) (by
  rw [nv];simp only [oR,List.all_nil,ij,Ge,id,HA,mH];constructor;· rintro ⟨a,b,c⟩;exact ⟨a,PP b,PP c⟩
  · rintro ⟨a,b,c⟩;exact ⟨a,by rw [b],by rw [c]⟩)
variable{y x:Chg}
theorem y7:x=y↔x.t=y.t/\x.k=y.k/\x.had=y.had/\x.o=y.o/\x.has=y.has/\x.n=y.n:=by
 obtain ⟨a,b,c,d,e,f⟩:=x;obtain ⟨g,m,c',B,e',G⟩:=y;simp only [Chg.mk.injEq]
theorem eqC(x y:Chg):EqT prog 3 73 (.agg x.BM3) (.agg y.BM3) (decide (x=y)):=
 Oh CC AD (.cons B0 (Ci AE rfl) (Ci AE rfl) (IW D3 _ _)<| .cons B0 (Ci AE rfl) (Ci AE rfl) (IW D3 _ _)<| .cons B0 (Ci G0 rfl) (Ci G0 rfl) (df N6 _ _)<| .cons B0 (Ph (cs:=#[I4 x.o.a,I4 x.o.b,I4 x.o.c]) Hb E4 rfl (by exact (by decide:(6:Nat)<=10))) (Ph (cs:=#[I4 y.o.a,I4 y.o.b,I4 y.o.c]) Hb E4 rfl (by exact (by decide:(6:Nat)<=10))) (dh K1 D3 AE A6 x.o y.o)<| .cons B0 (Ci G0 rfl) (Ci G0 rfl) (df N6 _ _)<| .cons B0 (Ph (cs:=#[I4 x.n.a,I4 x.n.b,I4 x.n.c]) Hb E4 rfl (by exact (by decide:(10:Nat)<=10))) (Ph (cs:=#[I4 y.n.a,I4 y.n.b,I4 y.n.c]) Hb E4 rfl (by exact (by decide:(10:Nat)<=10))) (dh K1 D3 AE A6 x.n y.n)<| .nil) (by
  rw [nv];simp only [oR,List.all_nil,ij,Ge,id,HA,y7])
theorem yU{x y:QM}:x=y↔x.kd=y.kd/\x.tb=y.tb/\x.cl=y.cl/\x.lo=y.lo/\x.hi=y.hi/\x.bq=y.bq/\x.ot=y.ot:=by
 obtain ⟨a,b,c,d,e,f,g⟩:=x;obtain ⟨m,B,c',G,e',I,J⟩:=y;simp only [QM.mk.injEq]
theorem eqQ(x y:QM):EqT prog 3 41 (.agg x.BM5) (.agg y.BM5) (decide (x=y)):=
 Oh DB AD (.cons B0 (Ci AE rfl) (Ci AE rfl) (IW D3 _ _)<| .cons B0 (Ci AE rfl) (Ci AE rfl) (IW D3 _ _)<| .cons B0 (Ci AE rfl) (Ci AE rfl) (IW D3 _ _)<| .cons B0 (Ci AE rfl) (Ci AE rfl) (IW D3 _ _)<| .cons B0 (Ci AE rfl) (Ci AE rfl) (IW D3 _ _)<| .cons B0 (Ci AE rfl) (Ci AE rfl) (IW D3 _ _)<| .cons B0 (Ci AE rfl) (Ci AE rfl) (IW D3 _ _)<| .nil) (by
  rw [nv];simp only [oR,List.all_nil,ij,Ge,id,HA,yU])
def BF.key(r:BF):Int×List Chg:=(r.p,r.cs)
variable{M:List A8}{vb va:A2}
theorem AA6{a b:List Chg}(ha:CL M va a)(hb:CL M vb b):Au prog 220 #[va,vb] [M] (.bool (decide (a=b))):=by
 have ic:=mL;obtain ⟨pa,ca,rfl,gy,W⟩:=ha;obtain ⟨pb,cb,rfl,gQ,X⟩:=hb;refine Se func220 ntmps220 [0,1] ?_;intro u R;refine A3<|AH Y<|B8 Y<|Zv (AR GO Y)<|Zm Y<|Zv (AR GO Y)<|Zv (Cm Y Y)<|A4<|Ak Y (fun O=>?_) (fun O=>?_);·
  refine A3<|An Y<|Zt<|AO rfl results220 Y (by exact ⟨EX (fun e=>O (by rw [e])),rfl⟩)
 have Z:a.length=b.length:=by omega
 refine B3<|B8 Y<|Zv (AR GO Y)<|Zm Y<|A4<|AQ<|Zb [13,0,1,12] ?_;refine Aw (e0:=[(13,_)]) (fun m e H=>∃(i:Nat),m=a.length -i/\(i<=a.length/\∀j,j<i->a[j]?=b[j]?)/\e=[(13,I4 (i:Int))]/\H=[]) (by exact ⟨0,V,⟨CM _,by intro j hj;omega⟩,V,V⟩) Wp ?_;rintro _ _ _ ⟨i,rfl,⟨hi,g⟩,rfl,rfl⟩;refine A3<|Zv (Ap Y Y)<|A4<|Zq<|Ak Y (fun af=>?_) (fun af=>?_);·
  obtain ⟨x,hx⟩:∃x,a[i]?=some x:=⟨_,BT A0⟩;obtain ⟨y,hy⟩:∃y,b[i]?=some y:=⟨_,BT A0⟩;obtain ⟨g1,gm,B,T1,cu,rfl,ax,d9,J⟩:=W i x hx;obtain ⟨g2,gq,G,T2,cO,rfl,bn,ek,K⟩:=X i y hy;refine B3<|Zq<|AQ<|AK Y<|CT Y<|Ay (n:=9) (0::0::3::7::0::0::48::112::255::[]) 0 AD AD V<|A1 0 V (AP Y)<|A1 1 V (AP Y)<|A1 2 V (AZ GO Cl Y Y A0)<|Cn (b:=g1) (x:= .cells B T1 cu) (D':=15) 3 V rfl V (by simp [ax]) (A9 (cs:=x.BM3) HD Cl Y A0 J) ?_;refine A1 4 V (AP Y)<|A1 5 V (AP Y)<|A1 6 V (AZ GO Cl Y Y A0)<|Cn (b:=g2) (x:= .cells G T2 cO) (D':=255) 7 V rfl V (by simp [bn]) (A9 (cs:=y.BM3) HD Cl Y A0 K) ?_;refine A1 8 V (xX AD Y Y (eqC x y))<|Aq<|Zx<|AY Y (fun I=>?_) (fun I=>?_);·
   have I:¬x=y:=by simpa using I
   refine A3<|B2 Y<|Zn [4] ?_;refine Zx<|AL<|Ag<|Zt<|Zt<|Ag<|Zt<|AO rfl results220 Y (by exact ⟨EX (fun e=>by rw [e,hy]at hx;injection hx with hx;exact I hx.symm),rfl⟩)
  have U:x=y:=by simpa using I
  refine AC<|AA<|Zx<|Dg Y Y Y<|HJ (by exact ⟨i+1,rfl,⟨by omega,fun j hj=>by rcases Fi j i with h9|h9;exact g j h9;obtain rfl:j=i:=A0;rw [hx,hy];exact congrArg some U⟩,rfl,rfl⟩)
 refine BA<|Zt<|Zt<|AX<|C6<|An Y<|AO V results220 Y (by exact ⟨Ko (Nb Z (fun j hj=>g j A0)),V⟩)
theorem gN{a b:BF}(B:CL M (.slice a.q a.cs.length a.cap) a.cs)(G:CL M (.slice b.q b.cs.length b.cap) b.cs):Au prog 132 #[.agg #[I4 a.p,.slice a.q a.cs.length a.cap],.agg #[I4 b.p,.slice b.q b.cs.length b.cap]] [M] (.bool (decide (a.key=b.key))):=by
 refine Se func132 ntmps132 [0,1] ?_;intro u R;refine A3<|Ze (Bx #[_,_])<|AF fun I=>Ze (Bx #[_,_])<|AF fun J=>AH Y<|A3<|Zh 0 GS V rfl A6 Y<|Zl AE Y<|Zh 0 GS V rfl A6 Y<|Zl AE Y<|Zv (CO Y Y)<|Zm Y<|Af (t:=10) Y V (fun g=>?_) (fun g=>?_);·
  refine Yf 1 GS V rfl Kf Y<|Yl MA Y<|Yf 1 GS V rfl Kf Y<|Yl MA Y<|Xr [_,_] Y call220 Y V (AA6 B G)<|C1 Y Y<|B2 Y<|Zn [4] ?_;refine Zx<|AL<|AO V results132 Y (by exact ⟨by exact Hm ⟨fun m=>Prod.ext g m,fun m=>(Prod.ext_iff.1 m).2⟩,V⟩)
 refine AG<|AG<|C4<|B9 Y Y<|B2 Y<|Zn [4] ?_;refine Zx<|AL<|AO V results132 Y (by exact ⟨by exact EX (fun e=>g (Prod.ext_iff.1 e).1),V⟩)
theorem jl{a b:List BF}(ha:Dx M va a)(hb:Dx M vb b):Au prog 219 #[va,vb,.func (.func 132) #[] #[]] [M] (.bool (decide (a.map BF.key=b.map BF.key))):=by
 have l5:=mL;obtain ⟨pa,ca,rfl,j5,X⟩:=ha;obtain ⟨pb,cb,rfl,kv,Z⟩:=hb;refine Se func219 ntmps219 [0,1,2] ?_;intro u R;refine A3<|AH Y<|B8 Y<|Zv (AR G2 Y)<|Zm Y<|Zv (AR G2 Y)<|Zv (Cm Y Y)<|A4<|Ak Y (fun K=>?_) (fun K=>?_);·
  refine A3<|An Y<|Zt<|AO V results219 Y (by exact ⟨EX (fun e=>K (by have:=congrArg List.length e;simpa using this)),V⟩)
 have af:a.length=b.length:=by omega
 refine B3<|B8 Y<|Zv (AR G2 Y)<|Zm Y<|A4<|AQ<|Zb [17,1,2,15,16] ?_;refine Aw (e0:=[(17,_)]) (fun m e H=>∃(i:Nat),m=a.length -i/\(i<=a.length/\∀j,j<i->(a.map BF.key)[j]?=(b.map BF.key)[j]?)/\e=[(17,I4 (i:Int))]/\H=[]) (by exact ⟨0,V,⟨CM _,by intro j hj;omega⟩,V,V⟩) Wp ?_;rintro _ _ _ ⟨i,rfl,⟨hi,g⟩,rfl,rfl⟩;refine A3<|Zv (Ap Y Y)<|A4<|Zq<|Ak Y (fun ax=>?_) (fun ax=>?_);·
  obtain ⟨x,hx⟩:∃x,a[i]?=some x:=⟨_,BT A0⟩;obtain ⟨y,hy⟩:∃y,b[i]?=some y:=⟨_,BT A0⟩;obtain ⟨cO,g1,gQ,B,T1,ek,rfl,bn,gq,I⟩:=X i x hx;obtain ⟨d9,g2,ic,G,T2,gm,rfl,cu,gy,J⟩:=Z i y hy;refine B3<|Zq<|AQ<|AK Y<|BX (AZ G2 E0 Y Y A0)<|Bu (cs:=[(g1,.cells B T1 ek)]) (by simp [bn]) (A9 (cs:=#[_,_]) HN E0 Y A0 I) V rfl<|Ze (Al N2 #[_,_])<|AF fun bx=>Za Y<|Xe (Xw E0 #[I4 x.p,.slice x.q x.cs.length x.cap])<|A4<|AK Y<|Zm Y<|BX (AZ G2 E0 Y Y A0)<|Bu (cs:=[(g2,.cells G T2 gm)]) (by simp [cu]) (A9 (cs:=#[_,_]) HN E0 Y A0 J) V rfl<|Ze (Al N2 #[_,_])<|AF fun j3=>Xe (Xw E0 #[I4 y.p,.slice y.q y.cs.length y.cap])<|Z0<|Zn [1,2,8,9,15,16,17] ?_;refine Zx<|AK Y<|Zo Wh (Pa #[_,_] HN E0 Y)<|Zo Wh (Pa #[_,_] HN E0 Y)<|Xr [_,_] Y call132 Y V (gN cO d9)<|Zv (CG Y)<|A4<|Ak Y (fun U=>?_) (fun U=>?_);·
   refine A3<|An Y<|Ag<|Zt<|Zt<|Ag<|Zt<|AO V results219 Y (by exact ⟨EX (fun e=>by have O:=congrArg (fun l=>l[i]?) e;simp only [E6,hx,hy,PB]at O;injection O with O;exact U O),V⟩)
  have W:x.key=y.key:=HP.1 U;refine AC<|AA<|Zx<|Dg Y Y Y<|HJ (by exact ⟨i+1,rfl,⟨by omega,fun j hj=>by rcases Fi j i with h9|h9;exact g j h9;obtain rfl:j=i:=A0;rw [E6,E6,hx,hy];exact congrArg some W⟩,rfl,rfl⟩)
 refine BA<|Zt<|Zt<|AX<|C6<|An Y<|AO rfl results219 Y (by exact ⟨Ko (Nb (by simp [af]) (fun j hj=>g j (by rw [Bk]at hj;omega))),rfl⟩)
theorem Vn{a b:List BF}(g:Dx M va a)(m:Dx M vb b):Au prog 131 #[va,vb,.func (.func 132) #[] #[]] [M] (.bool (decide (a.map BF.key=b.map BF.key))):=by
 refine Se func131 ntmps131 [0,1,2] ?_;intro u R;refine A3<|AH Y<|AK Y<|Zm Y<|Zm Y<|Xr [_,_,_] Y call219 Y V (jl g m)<|An Y<|AO V results131 Y (by exact ⟨V,V⟩)
set_option maxHeartbeats 1000000 in
theorem rG{a b:List RP}(ha:FV M va a)(hb:FV M vb b):Au prog 214 #[va,vb,.func (.func 130) #[] #[]] [M] (.bool (decide (a=b))):=by
 have l8:=mL;obtain ⟨pa,ca,rfl,kv,gm⟩:=ha.form;obtain ⟨pb,cb,rfl,l5,gq⟩:=hb.form;refine Se func214 ntmps214 [0,1,2] ?_;intro u R;refine A3<|AH Y<|B8 Y<|Zv (AR N5 Y)<|Zm Y<|Zv (AR N5 Y)<|Zv (Cm Y Y)<|A4<|Ak Y (fun K=>?_) (fun K=>?_);·
  refine A3<|An Y<|Zt<|AO rfl results214 Y (by exact ⟨EX (fun e=>K (by rw [e])),rfl⟩)
 have W:a.length=b.length:=by omega
 refine B3<|B8 Y<|Zv (AR N5 Y)<|Zm Y<|A4<|AQ<|Zb [17,1,2,15,16] ?_;refine Aw (e0:=[(17,_)]) (fun m e H=>∃(i:Nat),m=a.length -i/\(i<=a.length/\∀j,j<i->a[j]?=b[j]?)/\e=[(17,I4 (i:Int))]/\H=[]) (by exact ⟨0,V,⟨CM _,by intro j hj;omega⟩,V,V⟩) Wp ?_;rintro _ _ _ ⟨i,rfl,⟨hi,g⟩,rfl,rfl⟩;refine A3<|Zv (Ap Y Y)<|A4<|Zq<|Ak Y (fun X=>?_) (fun X=>?_);·
  obtain ⟨x9,hx⟩:∃x,a[i]?=some x:=⟨_,BT A0⟩;obtain ⟨y9,hy⟩:∃y,b[i]?=some y:=⟨_,BT A0⟩;obtain ⟨x,cu,ax,g1,ic,B,T1,d9,rfl,Z,gy,I⟩:=ha.at hx;obtain ⟨y,cO,bn,g2,j3,G,T2,ek,rfl,af,gQ,J⟩:=hb.at hy;subst cu cO;refine B3<|Zq<|AQ<|AK Y<|BX (AZ N5 Hj Y Y A0)<|Bu (cs:=[(g1,.cells B T1 d9)]) (by simp [Z]) (A9 (cs:=#[_,_,_,_,_,_,_,_,_]) RT Hj Y A0 I) V rfl<|Ze (Al bm #[_,_,_,_,_,_,_,_,_])<|AF fun bx=>Za Y<|Xe (Xw Hj #[I4 x.x.tb,I4 x.x.cl,I4 x.x.lo,I4 x.x.hi,I4 x.x.ct,I4 x.x.fi,.slice x.qr x.x.rows.length x.cr,.slice x.qp x.x.paths.length x.cp,.slice x.qt x.x.roots.length x.ct])<|A4<|AK Y<|Zm Y<|BX (AZ N5 Hj Y Y A0)<|Bu (cs:=[(g2,.cells G T2 ek)]) (by simp [af]) (A9 (cs:=#[_,_,_,_,_,_,_,_,_]) RT Hj Y A0 J) V rfl<|Ze (Al bm #[_,_,_,_,_,_,_,_,_])<|AF fun j5=>Xe (Xw Hj #[I4 y.x.tb,I4 y.x.cl,I4 y.x.lo,I4 y.x.hi,I4 y.x.ct,I4 y.x.fi,.slice y.qr y.x.rows.length y.cr,.slice y.qp y.x.paths.length y.cp,.slice y.qt y.x.roots.length y.ct])<|Z0<|Zn [1,2,8,9,15,16,17] ?_;refine Zx<|AK Y<|Zo Wh (Pa #[_,_,_,_,_,_,_,_,_] RT Hj Y)<|Zo Wh (Pa #[_,_,_,_,_,_,_,_,_] RT Hj Y)<|Xr [_,_] Y call130 Y V (ng ax.rp bn.rp)<|Zv (CG Y)<|A4<|Ak Y (fun O=>?_) (fun O=>?_);·
   refine A3<|An Y<|Ag<|Zt<|Zt<|Ag<|Zt<|AO rfl results214 Y (by exact ⟨EX (fun e=>by rw [e,hy]at hx;injection hx with hx;exact O hx.symm),rfl⟩)
  have U:x.x=y.x:=HP.1 O;refine AC<|AA<|Zx<|Dg Y Y Y<|HJ (by exact ⟨i+1,rfl,⟨by omega,fun j hj=>by rcases Fi j i with h9|h9;exact g j h9;obtain rfl:j=i:=A0;rw [hx,hy];exact congrArg some U⟩,rfl,rfl⟩)
 refine BA<|Zt<|Zt<|AX<|C6<|An Y<|AO V results214 Y (by exact ⟨Ko (Nb W (fun j hj=>g j A0)),V⟩)
theorem Z4{a b:List RP}(g:FV M va a)(m:FV M vb b):Au prog 129 #[va,vb,.func (.func 130) #[] #[]] [M] (.bool (decide (a=b))):=by
 refine Se func129 ntmps129 [0,1,2] ?_;intro u R;refine A3<|AH Y<|AK Y<|Zm Y<|Zm Y<|Xr [_,_,_] Y call214 Y V (rG g m)<|An Y<|AO V results129 Y (by exact ⟨V,V⟩)
def FW(h:Cw)(r:BF)(st:Bs):Prop:=Db r.p r.cs/\h.ok/\st.length=32/\r.p=h.p+1
noncomputable instance(h:Cw)(r:BF)(st:Bs):Decidable (FW h r st):=Classical.propDecidable _
def Ii(h:Cw)(r:BF)(st:Bs):Cw:=⟨r.p,Hq h.ch (G9 r.p r.cs),st⟩
noncomputable def Lm(h:Cw)(r:BF)(st:Bs):Cw×Int:=if FW h r st then(Ii h r st,0)else(⟨0,[],[]⟩,90)
noncomputable def Gp(st:Bs):Cw->List BF->Option Cw
 |h,[]=>some h
 |h,r::l=>if FW h r st then Gp st (Ii h r st) l else none
def Hy(a:Cw)(l:List BF)(b:Cw):Prop:=a.ok/\b.ok/\Gp b.st a l=some b
noncomputable instance(a:Cw)(l:List BF)(b:Cw):Decidable (Hy a l b):=Classical.propDecidable _
theorem QN(st:Bs):∀(l l2:List BF) (h:Cw),Gp st h (l++l2)=(Gp st h l).bind fun g=>Gp st g l2
 |[],_,_=>rfl
 |r::l,l2,h=>by
  show(if FW h r st then Gp st (Ii h r st) (l++l2)else none)=(if FW h r st then Gp st (Ii h r st) l else none).bind _;split;· exact QN st l l2 _
  · rfl
variable{l:List BF}{i:Nat}{r:BF}
theorem OB{st:Bs}{a h:Cw}(m:Gp st a (l.take i)=some h)(g:l[i]?=some r):Gp st a (l.take (i+1))=if FW h r st then some (Ii h r st)else none:=by
 rw [Bl g,QN,m];rfl
theorem fM{st:Bs}{a:Cw}(h:Gp st a (l.take i)=none):Gp st a l=none:=by
 rw [<-LO i l,QN,h];rfl
noncomputable def rM(p:Int)(cs:List Chg):Bs×Int:=if Db p cs then(G9 p cs,0)else([],30)
theorem Xz(p:Int)(q:BE)(cap:Nat)(cs:List Chg)(M:List A8)(m:CL M (.slice q cs.length cap) cs)(g:¬Db p cs):Au prog 118 #[.agg #[I4 p,.slice q cs.length cap]] [M] (.tuple #[.string (str []),I4 30]):=by
 refine Se func118 ntmps118 [0] ?_;intro u R;refine A3<|Ze (Bx #[_,_])<|AF fun B=>Za Y<|CT Y<|A3<|Zo Wh (Pa #[_,_] HN E0 Y)<|Xr [_] Y call42 Y V (KT p q cap cs M m) ?_;rw [DQ g];refine Zv (Bo Y)<|A4<|AY Y (fun hv=>?_) (fun hv=>?_);·
  refine A3<|Za Y<|An Y<|Zt<|DR V results118 Y Y (by exact ⟨V,V⟩)
 cases hv
theorem rJ(p:Int)(q:BE)(cap:Nat)(cs:List Chg)(M:List A8)(g:CL M (.slice q cs.length cap) cs):Au prog 118 #[.agg #[I4 p,.slice q cs.length cap]] [M] (.tuple #[.string (str (rM p cs).1),I4 (rM p cs).2]):=by
 unfold rM;split;· rename_i h;exact WF p q cap cs M g h
 · rename_i h;exact Xz p q cap cs M g h
theorem xd(h:Cw)(r:BF)(st:List UInt8)(Z:CL M (.slice r.q r.cs.length r.cap) r.cs)(K:AM)(U:Nat×Nat):Au prog 51 #[.agg #[I4 h.p,.string (str h.ch),.string (str h.st)],.agg #[I4 r.p,.slice r.q r.cs.length r.cap],.string (str st)] [M,[(0,.cells (Dn.map CW).toArray K U)]] (.tuple #[.agg #[I4 (Lm h r st).1.p,.string (str (Lm h r st).1.ch),.string (str (Lm h r st).1.st)],I4 (Lm h r st).2]):=by
 have ax:=mL;refine Se func51 ntmps51 [0,1,2] ?_;intro u R;refine A3<|Ze (Bx #[_,_,_])<|AF fun b1=>Ze (Bx #[_,_])<|AF fun b2=>Ze (Al ON #[_,_,_])<|AF fun b3=>AH Y<|A3<|Zo Wh (Pa #[_,_] HN E0 Y) ?_;refine Xr [_] Y call118 Y V (rJ r.p r.q r.cap r.cs M Z) ?_;refine Zm Y<|Zd Y V<|Zd Y V<|Za Y<|AH Y<|B8 Y<|Zv (I8 Y Y)<|Zm Y<|Af (t:=17) Y V (fun G=>?_) (fun G=>?_);focus
  have m:¬FW h r st:=fun g=>by unfold rM at G;rw [Ax g.1]at G;exact G rfl
  refine AG<|C4<|C1 Y Y<|Zm Y<|AG<|C4<|C1 Y Y<|Zm Y<|AG<|AG<|AG<|C1 Y Y<|Z0<|Zn [2,3,4,6,8,34] ?_;refine Zx<|Cy Y ?_
 rotate_left
 focus
  have B:Db r.p r.cs:=HP.1 fun g=>by unfold rM at G;rw [As g]at G;exact G B0
  have af:=Oi B;have J:rM r.p r.cs=(G9 r.p r.cs,0):=Ax B
  refine D6 Y Wh (Pa #[_,_,_] Lo HM Y) V rfl ?_;refine Xr [_] Y call119 Y V (Pt h.p h.ch h.st) ?_;refine Yg (CG Y)<|B9 Y Y<|Zm Y<|Af (t:=22) Y V (fun h2=>?_) (fun h2=>?_);focus
   have m:¬FW h r st:=fun g=>h2 g.2.1;refine AG<|C4<|C1 Y Y<|Zm Y<|AG<|AG<|AG<|C1 Y Y<|Z0<|Zn [2,3,4,6,8,34] ?_;refine Zx<|Cy Y ?_
  rotate_left
  focus
   have h2:=HP.1 h2;have W:=h2.1
   refine Zf Y Y<|Xr [_] Y call28 Y V (UK st) ?_;refine Yg (CG Y)<|B9 Y Y<|Zm Y<|Af (t:=27) Y V (fun I=>?_) (fun I=>?_);focus
    have m:¬FW h r st:=fun g=>I g.2.2.1;refine AG<|AG<|AG<|C1 Y Y<|Z0<|Zn [2,3,4,6,8,34] ?_;refine Zx<|Cy Y ?_
   rotate_left
   focus
    have I:=HP.1 I;refine Yf 0 GS V rfl A6 Y<|Yl AE Y ?_;refine Yf 0 OK V rfl A6 Y<|Yl AE Y ?_
    (refine Gy Y (J6 Y Y (IntWalk.i64_in _ ?_)) rfl rfl ?_;(focus (omega)))
    refine Yg (I8 Y Y)<|B9 Y Y<|Z0<|Zn [2,3,4,6,8,34] ?_;refine Zx<|Ak Y (fun O=>?_) (fun O=>?_);focus
     have m:¬FW h r st:=fun g=>O g.2.2.2
    rotate_left
    have X:FW h r st:=⟨B,h2,I,by omega⟩;rw [J];refine B3<|Zq<|Ay (n:=10) (0::1::0::4::0::28::0::127::255::511::[]) 288 AD AD V<|A1 0 V (AB (off:=0) GS V rfl A6 Y)<|Bm 1 V AE Y ?_;refine A1 2 V (AB (off:=1) OK V rfl FG Y)<|Bm 3 V H3 Y ?_;refine A1 4 V (AP Y)<|A1 6 V (AP Y)<|Zz (l:=[5])<|BW [false,true] [(1,(_,_))] V rfl (Zu [_,_] Y call120 Y V (Uv h.ch (G9 r.p r.cs) (by have:=h2.2.1;have:=B.len;omega) K U)) ?_ (fun _ _ h=>h.elim) Aj;rintro _ _ ⟨rfl,rfl⟩;refine C3<|A1 7 rfl (BN (vs:=[(0,_),(1,_),(2,_)]) (cs:=#[_,_,_]) Y (Aa (pl:=#[(0,1),(1,1),(2,1)]) ON OK (fun _=>by kernel_rfl) rfl))<|Yw 8 511 rfl (BJ HM Y Y (by(simp [Value.oneCell',Value.cells];done)) Wu (by exact Dz rfl) G4 Wb (by exact BB _))<|F0<|A1 9 rfl (BC Y)<|Aq<|Zx<|AL<|CS rfl results51 Y Wh (Av Lo HM Wn (Az rfl)) Y (by exact ⟨by unfold Lm;rw [Ax X];rfl,rfl⟩)
 all_goals
  refine A3<|Zv (BN (vs:=[]) (cs:=#[_,_,_]) Y (Aa (pl:=#[(0,1),(1,1),(2,1)]) ON OK (fun _=>by kernel_rfl) rfl))<|Xe (BJ HM Y Y K0 Wu (by exact Dz rfl) G4 Wb (by exact BB _)) ?_;refine An Y<|Zt<|CS rfl results51 Y Wh (Av Lo HM Wn (Az rfl)) Y (by exact ⟨by unfold Lm;rw [As m];rfl,rfl⟩)
set_option maxHeartbeats 1000000 in
theorem qc(a b:Cw){lv:A2}(hl:Dx M lv l)(Tg:AM)(zg:Nat×Nat):Au prog 58 #[.agg #[I4 a.p,.string (str a.ch),.string (str a.st)],lv,.agg #[I4 b.p,.string (str b.ch),.string (str b.st)]] [M,[(0,.cells (Dn.map CW).toArray Tg zg)]] (.bool (decide (Hy a l b))):=by
 have gy:=mL;obtain ⟨pl,cl,rfl,⟨gq,gm⟩,hg⟩:=id hl;refine Se func58 ntmps58 [0,1,2] ?_;intro u R;refine A3<|Ze (Bx #[_,_,_])<|AF fun X=>Ze (Bx #[_,_,_])<|AF fun bb=>AH Y<|QB ?_;refine Zb [1,3,5] ?_;refine CP (e0:=[]) (H0:=[]) (fun e H=>(True)/\e=[(7,.bool (decide (a.ok/\b.ok)))]/\H=[]) Wp ?hx_1 ?hy_1
 case hx_1=>
  refine Zg<|Zo Wh (A9 (cs:=#[_,_,_]) Lo HM Y Wb (by exact Az V)) ?_;refine Xr [_] Y call119 Y V (Pt a.p a.ch a.st) ?_;refine Zm Y<|Af (t:=14) Y V (fun Z=>?_) (fun Z=>?_);·
   refine D6 Y Wh (A9 (cs:=#[_,_,_]) Lo HM Y Wb (by exact Az V)) V rfl ?_;refine Xr [_] Y call119 Y V (Pt b.p b.ch b.st) ?_;refine C1 Y Y<|B2 Y<|Hh (by exact ⟨trivial,by(rw [show decide (a.ok/\b.ok)=decide b.ok from decide_eq_decide.2 ⟨fun B=>B.2,fun B=>⟨Z,B⟩⟩]),V⟩)
  refine AG<|B9 Y Y<|B2 Y<|Hh (by exact ⟨trivial,by(rw [DQ (show¬(a.ok/\b.ok) from fun B=>Z B.1)]),V⟩)
 rintro _ _ ⟨_,rfl,rfl⟩;refine Zq<|QF<|Zx<|Zb [1,7,3,5] ?_;refine CP (e0:=[(1,_),(7,_)]) (H0:=[[(X,.cells #[I4 a.p,.string (str a.ch),.string (str a.st)] 66 (0,0))]]) (fun e H=>∃(ok:Bool) (h:Cw),((ok=decide (a.ok/\b.ok)/\Gp b.st a l=some h)\/(ok=false/\Gp b.st a l=none))/\e=[(7,.bool ok)]/\H=[[(X,.cells #[I4 h.p,.string (str h.ch),.string (str h.st)] 66 (0,0))]]) Wp ?hx_4 ?hy_4
 case hx_4=>
  refine AK Y<|Zv (AR G2 Y)<|Zm Y<|A4<|AQ<|Zb [7,20,3,5,18,19] ?_;refine Aw (e0:=[(7,_),(20,_)]) (fun m e H=>∃(i:Nat) (h:Cw),m=l.length -i/\(i<=l.length/\Gp b.st a (l.take i)=some h)/\e=[(7,.bool (decide (a.ok/\b.ok))),(20,I4 (i:Int))]/\H=[[(X,.cells #[I4 h.p,.string (str h.ch),.string (str h.st)] 66 (0,0))]]) (by exact ⟨0,a,rfl,⟨CM _,by rw [JT];rfl⟩,rfl,rfl⟩) Wp ?_;rintro _ _ _ ⟨i,h,rfl,⟨hi,W⟩,rfl,rfl⟩;refine A3<|Zv (Ap Y Y)<|A4<|Zq<|Ak Y (fun af=>?_) (fun af=>?_);·
   obtain ⟨r,hr⟩:∃r,l[i]?=some r:=⟨_,BT A0⟩;obtain ⟨cO,g,off,cur,T,zz,rfl,ax,ek,U⟩:=hg i r hr;refine B3<|Zq<|AQ<|A3<|BX (AZ G2 E0 Y Y Q2)<|Bu (cs:=[(g,.cells cur T zz)]) (by simp [ax]) (A9 (cs:=#[_,_]) HN E0 Y A0 U) rfl rfl ?_;refine Ze (Al N2 #[_,_])<|AF fun br=>Xe (Xw E0 #[I4 r.p,.slice r.q r.cs.length r.cap]) ?_;refine A4<|A3<|Zo Wh (A9 (cs:=#[_,_,_]) Lo HM Y Wb (by exact Az V)) ?_;refine Zo Wh (A9 (cs:=#[_,_]) HN E0 Y Wb (by exact Az V)) ?_;refine Zh 2 OK V rfl FG Y<|Zl H3 Y ?_;refine Xr [_,_,_] Y call51 Y V (xd h r b.st cO Tg zg) ?_;refine Zm Y<|Zd Y V<|Zd Y V<|Ze (Al ON #[_,_,_])<|AF fun bn=>Xe (Xw HM #[I4 (Lm h r b.st).1.p,.string (str (Lm h r b.st).1.ch),.string (str (Lm h r b.st).1.st)]) ?_;refine B2 Y<|Zn [3,5,7,10,11,18,19,20] ?_;refine Zx<|B8 Y<|Zv (I8 Y Y)<|A4<|Ak Y (fun G=>?_) (fun G=>?_);·
    have hn:¬FW h r b.st:=fun B=>by unfold Lm at G;rw [Ax B]at G;exact G rfl
    have d9:Gp b.st a l=none:=fM (i:=i+1) (by rw [OB W hr,As hn]);refine A3<|AH Y<|BA<|Zt<|BV V<|Zt<|Zt<|AX<|HB (e:=[(7,_)]) (h:=by exact ⟨_,h,.inr ⟨V,d9⟩,V,V⟩)
   have hn:FW h r b.st:=HP.1 fun B=>by unfold Lm at G;rw [As B]at G;exact G B0
   have cu:Lm h r b.st=(Ii h r b.st,0):=Ax hn;rw [cu];refine B3<|Zg<|Zo Wh (A9 (cs:=#[_,_,_]) Lo HM Y Wb (by exact Az V)) ?_;refine Xe (Xw HM #[I4 (Ii h r b.st).p,.string (str (Ii h r b.st).ch),.string (str (Ii h r b.st).st)]) ?_;refine Z0<|AA<|Zx<|Dg Y Y Y<|DG (e:=[(7,_),(20,_)]) (h:=by exact ⟨i+1,Ii h r b.st,rfl,⟨by omega,by rw [OB W hr,Ax hn]⟩,rfl,rfl⟩)
  have ei:i=l.length:=by omega
  subst ei;rw [HE]at W;refine BA<|Zt<|Zt<|AX<|HB (e:=[(7,_)]) (h:=by exact ⟨_,h,.inl ⟨V,W⟩,V,V⟩)
 rintro _ _ ⟨ok,h,O,rfl,rfl⟩;refine AK Y<|Zm Y<|Ad (t:=37) Y V (fun h2=>?_) (fun h2=>?_);·
  have I:h=b↔Hy a l b:=by
   rcases O with⟨J,K⟩|⟨J,K⟩
   · rw [h2]at J
     have h5:=IH J.symm;exact ⟨fun B=>⟨h5.1,h5.2,by rw [K,B]⟩,fun B=>by have h6:=B.2.2;rw [K]at h6;injection h6⟩
   · rw [h2]at J;cases J
  refine D6 Y Wh (A9 (cs:=#[_,_,_]) Lo HM Y Wb (by exact Az V)) V rfl ?_;refine D6 Y Wh (A9 (cs:=#[_,_,_]) Lo HM Y Wb (by exact Az V)) V rfl ?_;refine Yg (vV AD Y Y (eqH h b)) ?_;refine C1 Y Y<|An Y<|H9 ?_;refine AO V results58 Y (by exact ⟨by exact Hm I,V⟩)
 have I:¬Hy a l b:=fun B=>by
  rcases O with⟨J,K⟩|⟨J,K⟩
  · rw [h2]at J;exact da J.symm ⟨B.1,B.2.1⟩
  · rw [B.2.2]at K;cases K
 refine AG<|C4<|B9 Y Y<|An Y<|H9 ?_;refine AO V results58 Y (by exact ⟨by exact congrArg Value.bool (DQ I).symm,V⟩)
def Nq.eqv(a b:Nq):Prop:=a.q=b.q/\a.since=b.since/\a.until_=b.until_/\a.base=b.base/\a.res=b.res/\a.ranges=b.ranges/\a.recs.map BF.key=b.recs.map BF.key
instance(a b:Nq):Decidable (a.eqv b):=inferInstanceAs(Decidable (_/\_))
def Jl(base until_:Cw)(a:Nq):Prop:=base.p=a.base/\until_.p=a.until_/\Hy base a.recs until_/\(∀x∈a.ranges,QG base.st x)/\∃b,Fh a.q a.base a.ranges a.recs=some b/\a.eqv b
noncomputable instance(base until_:Cw)(a:Nq):Decidable (Jl base until_ a):=Classical.propDecidable _
def RP.small(x:RP):Prop:=(∀s∈x.roots,s.length<=140737488354000)/\∀l∈x.paths,l.length<=1000000
theorem JP{a b:Nq}(h:¬a.eqv b):Value.bool false=Value.bool (decide (a.eqv b)):=congrArg Value.bool (DQ h).symm
theorem iA{x y:Ox}(hx:x.ok M)(hy:y.ok M):Au prog 62 #[.agg x.BM6,.agg y.BM6] [M] (.bool (decide (x.a.eqv y.a))):=by
 refine Se func62 ntmps62 [0,1] ?_;intro u R;refine A3<|Ze (Bx x.BM6)<|AF fun K=>Ze (Bx y.BM6)<|AF fun O=>AH Y<|A3<|Zh 0 HH V rfl D4 Y<|Zo Wh (A9 (cs:=#[_,_,_,_,_,_,_]) Fm D4 Y B5 B1)<|Zh 0 HH V rfl D4 Y<|Zo Wh (A9 (cs:=#[_,_,_,_,_,_,_]) Fm D4 Y B5 B1)<|Zv (vV AD Y Y (eqQ x.a.q y.a.q))<|Zm Y<|Af (t:=10) Y V (fun g=>?_) (fun g=>?_);·
  refine Yf 10 HH V rfl A6 Y<|Yl AE Y<|Yf 10 HH V rfl A6 Y<|Yl AE Y<|Yg (CO Y Y)<|C1 Y Y<|Zm Y<|Af (t:=17) Y V (fun h2=>?_) (fun h2=>?_);·
   refine Yf 11 HH V rfl A6 Y<|Yl AE Y<|Yf 11 HH V rfl A6 Y<|Yl AE Y<|Yg (CO Y Y)<|C1 Y Y<|Zm Y<|Af (t:=24) Y V (fun m=>?_) (fun m=>?_);·
    refine Yf 12 HH V rfl A6 Y<|Yl AE Y<|Yf 12 HH V rfl A6 Y<|Yl AE Y<|Yg (CO Y Y)<|C1 Y Y<|Zm Y<|Af (t:=31) Y V (fun B=>?_) (fun B=>?_);·
     refine Yf 7 HH V rfl C5 Y<|D6 Y Wh (A9 (cs:=#[_,_,_]) EV C5 Y B5 B1) V rfl<|Yf 7 HH V rfl C5 Y<|D6 Y Wh (A9 (cs:=#[_,_,_]) EV C5 Y B5 B1) V rfl<|Xr [_,_] Y call128 Y V (jk hx.1 hy.1)<|C1 Y Y<|Zm Y<|Af (t:=38) Y V (fun G=>?_) (fun G=>?_);·
      refine Yf 13 HH V rfl Lw Y<|Yl PC Y<|Yf 13 HH V rfl Lw Y<|Yl PC Y<|Xr [_,_,_] Y call129 Y V (Z4 hx.2.1 hy.2.1)<|C1 Y Y<|Zm Y<|Af (t:=45) Y V (fun I=>?_) (fun I=>?_);·
       refine Yf 14 HH V rfl Lz Y<|Yl W6 Y<|Yf 14 HH V rfl Lz Y<|Yl W6 Y<|Xr [_,_,_] Y call131 Y V (Vn hx.2.2 hy.2.2)<|C1 Y Y<|B2 Y<|Zn [4] ?_;refine Zx<|AL<|AO V fc Y (by exact ⟨by exact Hm ⟨fun J=>⟨g,h2,m,B,G,I,J⟩,fun J=>J.2.2.2.2.2.2⟩,V⟩)
      refine AG<|AG<|C4<|B9 Y Y<|B2 Y<|Zn [4] ?_;refine Zx<|AL<|AO V fc Y (by exact ⟨by exact JP (fun e=>I e.2.2.2.2.2.1),V⟩)
     refine AG<|AG<|C4<|B9 Y Y<|Zm Y<|AG<|AG<|C4<|B9 Y Y<|B2 Y<|Zn [4] ?_;refine Zx<|AL<|AO V fc Y (by exact ⟨by exact JP (fun e=>G e.2.2.2.2.1),V⟩)
    refine AG<|AG<|C4<|B9 Y Y<|Zm Y<|AG<|AG<|C4<|B9 Y Y<|Zm Y<|AG<|AG<|C4<|B9 Y Y<|B2 Y<|Zn [4] ?_;refine Zx<|AL<|AO V fc Y (by exact ⟨by exact JP (fun e=>B e.2.2.2.1),V⟩)
   refine AG<|AG<|C4<|B9 Y Y<|Zm Y<|AG<|AG<|C4<|B9 Y Y<|Zm Y<|AG<|AG<|C4<|B9 Y Y<|Zm Y<|AG<|AG<|C4<|B9 Y Y<|B2 Y<|Zn [4] ?_;refine Zx<|AL<|AO V fc Y (by exact ⟨by exact JP (fun e=>m e.2.2.1),V⟩)
  refine AG<|AG<|C4<|B9 Y Y<|Zm Y<|AG<|AG<|C4<|B9 Y Y<|Zm Y<|AG<|AG<|C4<|B9 Y Y<|Zm Y<|AG<|AG<|C4<|B9 Y Y<|Zm Y<|AG<|AG<|C4<|B9 Y Y<|B2 Y<|Zn [4] ?_;refine Zx<|AL<|AO V fc Y (by exact ⟨by exact JP (fun e=>h2 e.2.1),V⟩)
 refine AG<|AG<|C4<|B9 Y Y<|Zm Y<|AG<|AG<|C4<|B9 Y Y<|Zm Y<|AG<|AG<|C4<|B9 Y Y<|Zm Y<|AG<|AG<|C4<|B9 Y Y<|Zm Y<|AG<|AG<|C4<|B9 Y Y<|Zm Y<|AG<|AG<|C4<|B9 Y Y<|B2 Y<|Zn [4] ?_;refine Zx<|AL<|AO V fc Y (by exact ⟨by exact JP (fun e=>g e.1),V⟩)
theorem YR(h:Cw){z:RPZ}(hz:z.ok M)(B:z.x.small)(m:Nat)(g:AM)(G:Nat×Nat):Au prog 59 #[.agg #[I4 z.x.tb,I4 z.x.cl,I4 z.x.lo,I4 z.x.hi,I4 z.x.ct,I4 z.x.fi,.slice z.qr z.x.rows.length z.cr,.slice z.qp z.x.paths.length z.cp,.slice z.qt z.x.roots.length z.ct],I5 m] [[(m,.cells #[I4 h.p,.string (str h.ch),.string (str h.st)] 66 (0,0))],[(0,.cells (Dn.map CW).toArray g G)],M] (.bool (decide (¬QG h.st z.x))):=by
 refine Se func59 ntmps59 [0,1] ?_;intro u R;refine A3<|Ze (Bx #[I4 z.x.tb,I4 z.x.cl,I4 z.x.lo,I4 z.x.hi,I4 z.x.ct,I4 z.x.fi,.slice z.qr z.x.rows.length z.cr,.slice z.qp z.x.paths.length z.cp,.slice z.qt z.x.roots.length z.ct])<|AF fun I=>AH Y<|A3<|Zh 2 OK V rfl FG Y<|Zl H3 Y<|Zo Wh (A9 (cs:=#[_,_,_,_,_,_,_,_,_]) RT Hj Y Wb (Az V))<|Xr [_,_] Y call60 Y V (Xn hz.rp B.1 B.2 h.st g G)<|Zv (CG Y)<|An Y<|AO V results59 Y (by exact ⟨V,V⟩)
variable{v:A2}
theorem Vi(h:Cw){L:List RP}(hL:FV M v L)(hs:∀x∈L,x.small)(K:Nat)(U:AM)(zg:Nat×Nat):BS prog 127 #[v,.func (.func 59) #[] #[I5 K]] [[(K,.cells #[I4 h.p,.string (str h.ch),.string (str h.st)] 66 (0,0))],[(0,.cells (Dn.map CW).toArray U zg)],M] (fun w H'=>∃z:Int,w=I4 z/\(0<=z↔¬∀x∈L,QG h.st x)/\H'=[[(K,.cells #[I4 h.p,.string (str h.ch),.string (str h.st)] 66 (0,0))],[(0,.cells (Dn.map CW).toArray U zg)],M]):=by
 have gm:=mL;obtain ⟨pa,ca,rfl,ek,cu⟩:=hL.form;refine Se func127 ntmps127 [0,1] ?_;intro u R;refine A3<|AH Y<|B8 Y<|Zv (AR N5 Y)<|Zm Y<|A4<|AQ<|Zb [8,0,1,7] ?_;refine Aw (e0:=[(8,_)]) (fun m e H=>∃(i:Nat),m=L.length -i/\(i<=L.length/\∀(j:Nat) (y:RP),j<i->L[j]?=some y->QG h.st y)/\e=[(8,I4 (i:Int))]/\H=[]) (by exact ⟨0,V,⟨CM _,by intro j y O;omega⟩,V,V⟩) Wp ?_;rintro _ _ _ ⟨i,rfl,⟨hi,B⟩,rfl,rfl⟩;refine A3<|Zv (Ap Y Y)<|A4<|Zq<|Ak Y (fun W=>?_) (fun W=>?_);·
  obtain ⟨x9,hx⟩:∃x,L[i]?=some x:=⟨_,BT A0⟩;obtain ⟨x,af,Z,g1,d9,G,T1,bn,rfl,X,cO,I⟩:=hL.at hx;subst af;have ax:=hs x.x (Ek hx)
  refine B3<|Zq<|AQ<|AK Y<|AH Y<|AK Y<|Zm Y<|Zm Y<|BX (AZ N5 Hj Y Y A0)<|Bu (cs:=[(g1,.cells G T1 bn)]) (by simp [X]) (A9 (cs:=#[_,_,_,_,_,_,_,_,_]) RT Hj Y A0 I) V rfl<|Xr [_] Y call59 Y V (YR h Z ax K U zg)<|A4<|Ak Y (fun hv=>?_) (fun hv=>?_);·
   refine AK Y<|An Y<|Ag<|Zt<|Zt<|Ag<|Zt<|AO V results127 Y (by exact ⟨_,V,⟨fun _ g=>hv (g _ (Ek hx)),fun _=>by omega⟩,V⟩)
  refine AC<|AA<|Zx<|Dg Y Y Y<|HJ (by exact ⟨i+1,rfl,⟨by omega,fun j y O hy=>by rcases Fi j i with g|g;exact B j y g hy;obtain rfl:j=i:=A0;rw [hx]at hy;injection hy with hy;rw [<-hy];exact HP.1 hv⟩,rfl,rfl⟩)
 have J:∀x∈L,QG h.st x:=fun x hx=>by obtain ⟨j,O⟩:=HU hx;exact B j x (by have:=(C7.1 O).1;omega) O
 refine BA<|Zt<|Zt<|AX<|C6<|An Y<|AO V results127 Y (by exact ⟨_,V,⟨fun g=>absurd g B0,fun g=>absurd J g⟩,V⟩)
theorem AC7(h:Cw){L:List RP}(G:FV M v L)(I:∀x∈L,x.small)(g:Nat)(m:AM)(B:Nat×Nat):BS prog 61 #[v,.func (.func 59) #[] #[I5 g]] [[(g,.cells #[I4 h.p,.string (str h.ch),.string (str h.st)] 66 (0,0))],[(0,.cells (Dn.map CW).toArray m B)],M] (fun w H'=>∃b:Bool,w= .bool b/\(b=true↔¬∀x∈L,QG h.st x)/\H'=[[(g,.cells #[I4 h.p,.string (str h.ch),.string (str h.st)] 66 (0,0))],[(0,.cells (Dn.map CW).toArray m B)],M]):=by
 refine Se func61 ntmps61 [0,1] ?_;intro u R;refine A3<|AH Y<|AK Y<|Zm Y<|Zc [_,_] Y call127 Y V (Vi h G I g m B) ?_;rintro _ _ ⟨_,⟨z,rfl,hz,rfl⟩,rfl⟩;refine Zv (Ga Y Y)<|An Y<|AO rfl results61 Y (by exact ⟨_,rfl,by rw [<-hz];simp,rfl⟩)
theorem oI{A:List A8}{x y:Ox}(hx:x.ok M)(hy:y.ok (A++M)):Au prog 62 #[.agg x.BM6,.agg y.BM6] [A,M] (.bool (decide (x.a.eqv y.a))):=by
 refine Gj (iA (hx.mono (fun c hc=>HK A hc)) hy) B7 ?_;rintro r H' ⟨rfl,rfl⟩;exact ⟨_,⟨V,V⟩,by simp⟩
set_option maxHeartbeats 1000000 in
theorem mX(base until_:Cw){z:Ox}(hz:z.ok M)(hs:∀x∈z.a.ranges,x.small)(bn:z.a.ranges.length<=1000000)(hb:-1000000000000<=z.a.base/\z.a.base<=1000000000000)(ax:∀x∈z.a.recs,x.cs.length<=1000){r:C8}(hr:EJ z.a.q z.a.ranges=some r)(J:AM)(zg:Nat×Nat):Au prog 20 #[.agg #[I4 base.p,.string (str base.ch),.string (str base.st)],.agg #[I4 until_.p,.string (str until_.ch),.string (str until_.st)],.agg z.BM6] [[(0,.cells (Dn.map CW).toArray J zg)],M] (.bool (decide (Jl base until_ z.a))):=by
 have cO:=mL;refine Se func20 ntmps20 [0,1,2] ?_;intro u R;refine A3<|Ze (Bx #[_,_,_])<|AF fun b1=>Ze (Bx #[_,_,_])<|AF fun b2=>Ze (Bx z.BM6)<|AF fun b3=>CT Y<|A3<|Zh 0 OK V rfl A6 Y<|Zl AE Y<|Zh 12 HH V rfl A6 Y<|Zl AE Y<|Zv (I8 Y Y)<|Zm Y<|Af (t:=15) Y V (fun K=>?_) (fun K=>?_);·
  refine AG<|AG<|C4<|C1 Y Y<|Zm Y<|AG<|AG<|AG<|C1 Y Y<|Z0<|Zn [3,5,29] ?_;refine Zx<|Cy Y<|A3<|An Y<|Zt<|AO V kO Y (by exact ⟨congrArg Value.bool (DQ (fun g:Jl base until_ z.a=>by exact K g.1)).symm,V⟩)
 refine Yf 0 OK V rfl A6 Y<|Yl AE Y<|Yf 11 HH V rfl A6 Y<|Yl AE Y<|Yg (I8 Y Y)<|B9 Y Y<|Zm Y<|Af (t:=22) Y V (fun h2=>?_) (fun h2=>?_);·
  refine AG<|AG<|AG<|C1 Y Y<|Z0<|Zn [3,5,29] ?_;refine Zx<|Cy Y<|A3<|An Y<|Zt<|AO V kO Y (by exact ⟨congrArg Value.bool (DQ (fun g:Jl base until_ z.a=>by exact h2 g.2.1)).symm,V⟩)
 refine D6 Y Wh (A9 (cs:=#[_,_,_]) Lo HM Y Wb (Az V)) V rfl<|Yf 14 HH V rfl Lz Y<|Yl W6 Y<|D6 Y Wh (A9 (cs:=#[_,_,_]) Lo HM Y Wb (Az V)) V rfl<|Xr [_,_,_] Y call58 Y V (qc base until_ hz.2.2 J zg)<|Yg (CG Y)<|B9 Y Y<|Z0<|Zn [3,5,29] ?_;refine Zx<|Ak Y (fun W=>?_) (fun W=>?_);·
  refine A3<|An Y<|Zt<|AO V kO Y (by exact ⟨congrArg Value.bool (DQ (fun g:Jl base until_ z.a=>by exact W g.2.2.1)).symm,V⟩)
 have O:=HP.1 K;have U:=HP.1 h2
 have X:=HP.1 W;refine AC<|C6<|Zv (Be (vs:=[]) (us:=[_]) Y Y)<|CT Y<|A3<|Zh 13 HH V rfl Lw Y<|Zl PC Y<|Zm Y<|Zc [_,_] Y call61 Y V (AC7 base hz.2.1 hs b1 J zg) ?_;rintro _ _ ⟨_,⟨bf,rfl,G,rfl⟩,rfl⟩;refine A4<|AY Y (fun Z=>?_) (fun Z=>?_);·
  refine A3<|An Y<|Zt<|AO V kO Y (by exact ⟨congrArg Value.bool (DQ (fun g:Jl base until_ z.a=>(G.1 Z) g.2.2.2.1)).symm,V⟩)
 have h5:∀x∈z.a.ranges,QG base.st x:=HP.1 fun g=>by have:=G.2 g;rw [Z]at this;cases this
 refine AC<|C6<|Zh 0 HH V rfl D4 Y<|Zo Wh (Pa #[_,_,_,_,_,_,_] Fm D4 Y)<|Zh 12 HH V rfl A6 Y<|Zl AE Y<|Zh 13 HH V rfl Lw Y<|Zl PC Y<|Zv (BN (vs:=[(0,.agg z.a.q.BM5),(2,I4 z.a.base),(3,.slice z.gp z.a.ranges.length z.gc)]) (cs:=#[I4 z.a.q.kd,I4 z.a.q.tb,I4 z.a.q.cl,I4 z.a.q.lo,I4 z.a.q.hi,I4 z.a.q.bq,I4 z.a.q.ot,I4 0,I4 z.a.base,.slice z.gp z.a.ranges.length z.gc]) Y (Aa (pl:=#[(0,7),(7,1),(8,1),(9,1)]) fN HF (fun _=>by kernel_rfl) AD))<|Zh 14 HH V rfl Lz Y<|Zl W6 Y<|Zc [_,_] Y call57 Y V (mZ z.a.q 0 z.a.base hb hz.2.1 bn hr hz.2.2 ax) ?_;rintro _ _ ⟨_,⟨y,s9,d9,I,rfl,rfl⟩,rfl⟩;refine Zm Y<|Zd Y V<|Zd Y V<|Ze (Al NO #[_,_,_,_,_,_,_,_,_,_,_,_,_,_,_])<|AF fun b4=>Xe (Xw KB y.BM6)<|B2 Y<|Zn [5,8,9] ?_;refine Zx<|AK Y<|Zm Y<|Ad (t:=49) Y V (fun h6=>?_) (fun h6=>?_);·
  obtain ⟨B,cu⟩:Fh z.a.q z.a.base z.a.ranges z.a.recs=some y.a/\y.ok (s9++M):=by rcases I with⟨_,g⟩|⟨g,_⟩;exact g;rw [h6]at g;cases g
  refine D6 Y Wh (A9 (cs:=#[_,_,_,_,_,_,_,_,_,_,_,_,_,_,_]) Z3 KB Y Wb (Az rfl)) rfl rfl<|D6 Y Wh (A9 (cs:=#[_,_,_,_,_,_,_,_,_,_,_,_,_,_,_]) Z3 KB Y Wb (Az rfl)) rfl rfl<|Xr [_,_] Y call62 Y rfl (oI hz cu)<|C1 Y Y<|An Y<|AO rfl kO Y (by exact ⟨by exact Hm ⟨fun g=>⟨O,U,X,h5,y.a,B,g⟩,fun g=>by obtain ⟨b,m,af⟩:=g.2.2.2.2;rw [B]at m;injection m with m;rw [m];exact af⟩,rfl⟩)
 have B:Fh z.a.q z.a.base z.a.ranges z.a.recs=none:=by rcases I with⟨g,_⟩|⟨_,g⟩;rw [h6]at g;cases g;exact g
 refine A7 Y rfl<|A7 Y rfl<|A7 Y rfl<|B9 Y Y<|An Y<|AO rfl kO Y (by exact ⟨by exact congrArg Value.bool (DQ (fun g:Jl base until_ z.a=>by obtain ⟨b,m,_⟩:=g.2.2.2.2;rw [B]at m;cases m)).symm,rfl⟩)
def putE(n:Int):Int:=if n< -4611686018427387903 then 10 else 0
def E8(l:List BF):Nat->Cw
 |0=>⟨0,Xd,Ll []⟩
 |i+1=>match l[i]?with
  |some r=>Ii (E8 l i) r (Ll (BQ (l.take (i+1))))
  |none=>E8 l i
def FI(l:List BF)(n:Nat):List Cw:=(List.range n).map (E8 l)
theorem Mq(l:List BF)(n:Nat):FI l (n+1)=FI l n++[E8 l n]:=by unfold FI;rw [i7,CN];rfl
theorem Oa(g:l[i]?=some r):E8 l (i+1)=Ii (E8 l i) r (Ll (BQ (l.take (i+1)))):=by
 rw [E8,g]
theorem NL(rs:List AV):(Ll rs).length=32:=GY _
theorem Rk(h r:Bs):(Hq h r).length=32:=NE _
theorem Kk(m:EY l)(G:l.length<=9000):∀i,i<=l.length->(E8 l i).ok/\(E8 l i).p=(i:Int)/\(E8 l i).st=Ll (BQ (l.take i))
 |0,_=>⟨⟨⟨by show(0:Int)<=0;decide,by show(0:Int)<=10000;decide⟩,List.length_replicate,NL _⟩,rfl,by rw [JT];rfl⟩
 |i+1,hi=>by
  obtain ⟨r,g⟩:∃r,l[i]?=some r:=⟨_,BT A0⟩;have B:r.p=(i:Int)+1:=(m i r g).1.pos
  rw [Oa g];exact ⟨⟨⟨by show 0<=r.p;omega,by show r.p<=10000;omega⟩,Rk _ _,NL _⟩,by show r.p=_;rw [B];rfl,rfl⟩
theorem PM{z:Int}(k:Int)(m:1<=k)(g:-9223372036854775808<=z)(h2:z<=9223372036854775807):-9223372036854775808<=z.tdiv k/\z.tdiv k<=9223372036854775807:=by
 have h:=Int.natAbs_tdiv_le_natAbs z k;rcases Int.lt_or_le z 0 with hz|hz
 · have:z.tdiv k<=0:=by
    obtain ⟨y,rfl⟩:∃y,z=-y:=⟨-z,by omega⟩;rw [Int.neg_tdiv];have:=Int.tdiv_nonneg (a:=y) (b:=k) A0 A0
    omega
   omega
 · have:=Int.tdiv_nonneg hz (show(0:Int)<=k by omega)
   omega
theorem Vt{kd tb cl lo hi bq ot:Int}(h:(0<=tb/\tb<=3)/\(0<=cl/\cl<=3)/\(-1000000000<=lo/\lo<=hi/\hi<=1000000000)/\
 ((kd=1/\cl=0/\lo=hi/\(1<=lo/\lo<=1000000)/\bq=0/\ot=0)\/((kd=2\/kd=3)/\bq=0/\ot=0)\/
  ((kd=4\/kd=5\/kd=6)/\(1<=bq/\bq<=3)/\ot=0)\/(kd=7/\(1<=bq/\bq<=3)/\(0<=ot/\ot<=3)))):BH ⟨kd,tb,cl,lo,hi,bq,ot⟩:=h
theorem A37(rs:List AV)(c:Chg):(ER rs c).length<=rs.length+1:=by
 unfold ER OT;simp only [C0,Cd,Cp];split<;>simp only [GC,MY]<;>omega
theorem Tt:∀(cs:List Chg) (rs:List AV),(DT rs cs).length<=rs.length+cs.length
 |[],_=>D0 _
 |c::cs,rs=>by
  have g:=Tt cs (ER rs c);have h2:=A37 rs c
  rw [F2];exact SZ g A0
theorem EY.few(h:EY l):∀i,i<=l.length->(BQ (l.take i)).length<=3*i
 |0,_=>by rw [JT];exact D0 _
 |i+1,hi=>by
  obtain ⟨r,g⟩:∃r,l[i]?=some r:=⟨_,BT A0⟩;rw [Bl g,Gt];have m:=Tt r.cs (BQ (l.take i))
  have h2:=EY.few h i A0;have B:=(h i r g).2
  omega
variable{cap:Nat}
theorem uG{q:BE}(m:Dx M (.slice q l.length cap) l)(g:EY l)(I:l.length<=1000000)(k:Nat)(B:k<=l.length):BS prog 14 #[.slice q l.length cap,I4 (k:Int)] [M] (fun r H'=>∃v s,r= .tuple #[v,I4 0]/\RG v (k:Int) (BQ (l.take k)) s/\H'=[s,M]):=by
 refine Gj (yS q cap l M m g I k B) V ?_;rintro r H' ⟨U,O,es,ck,lm,rfl,J,G,rfl⟩;obtain ⟨K,hn⟩:=g.rows k B;exact ⟨_,⟨_,_,V,⟨U,O,es,ck,lm,V,J,G,K,hn,V⟩,V⟩,by simp⟩
def G5(l:List BF)(a b:Nat):List BF:=(l.drop a).take (b -a)
variable{b a:Nat}
theorem Ws(g:b<=l.length):(G5 l a b).length=b -a:=by unfold G5;rw [Cd,Cp];omega
variable{k:Nat}
theorem A46{x:BF}(h:(G5 l a b)[k]?=some x):l[a+k]?=some x/\k<b -a:=by
 unfold G5 at h;rw [HR]at h;split at h;· rename_i h9;rw [Pc]at h;exact ⟨h,h9⟩
 · cases h
theorem A45(h:EY l)(a b:Nat):∀x∈G5 l a b,x.cs.length<=1000:=fun x hx=>by
 obtain ⟨k,g⟩:=HU hx;have:=(h _ x (A46 g).1).2
 omega
theorem ZX(h:EY l)(B:l.length<=20)(g:k<=l.length)(q:QM):(CU (BQ (l.take k)) q).length<=100:=by
 have m:=h.few k g;have h2:=(@Tf (BQ (l.take k)) q.tb q.cl.toNat q.lo q.hi).1
 unfold CU;omega
theorem pR(rs:List AV)(q:QM):(EN rs q).length<=1+(CU rs q).length:=by
 unfold EN;split;· rw [F2,Bk];omega
 · simp
noncomputable def RB(l:List BF)(a b:Nat)(q:QM):Option Nq:=Fh q (a:Int) (EN (BQ (l.take a)) q) (G5 l a b)
def Gh(x0 x1 x2 x3 x4:Int):QM:=
 if CY x0 7=0 then⟨((1+CY x0 7:Nat):Int),(CY (x0.tdiv 7) 3:Int),0,((1+CY x1 9:Nat):Int),((1+CY x1 9:Nat):Int),0,0⟩
 else⟨((1+CY x0 7:Nat):Int),(CY (x0.tdiv 7) 3:Int),(CY x1 4:Int),(CY x2 12:Int) -3,(CY x2 12:Int) -3+(CY x3 14:Int),if 3<=CY x0 7 then((1+CY x4 3:Nat):Int)else 0,if CY x0 7=6 then(CY (x4.tdiv 3) 3:Int)else 0⟩
theorem gZ(g m G I B:Int):BH (Gh g m G I B):=by
 have a0:=EL g 7 B0;have J:=EL (g.tdiv 7) 3 B0
 have K:=EL m 9 B0;have O:=EL m 4 B0
 have U:=EL G 12 B0;have W:=EL I 14 B0
 have X:=EL B 3 B0;have Z:=EL (B.tdiv 3) 3 B0
 unfold Gh;split;· exact Vt A0
 · split<;>split<;>exact Vt A0
theorem JU(c:Int)(n:Nat)(hn:0<n)(m:n<=1000000)(B:-9223372036854775808<=c)(h2:c<=9223372036854775807):Au prog 10 #[I4 c,I4 (n:Int)] [] (I4 (CY c n:Int)):=by
 refine Se func10 ntmps10 [0,1] ?_;intro u R;refine A3<|AH Y<|B8 Y<|Zv (Dy Y Y)<|A4<|Ak Y (fun g=>?_) (fun g=>?_);focus
  refine Zg<|Zm Y<|Yi Y Y ?_;refine BX (lS Y (IntWalk.i64_in _ A0))<|Za Y<|Z0 ?_
 rotate_left
 focus
  refine AC ?_
 all_goals
  refine Zx<|AK Y<|Zm Y<|BX (tz Y Y A0 rfl)<|An Y<|AO rfl results10 Y (by exact ⟨by rw [<-A44];simp [*],rfl⟩)
set_option maxHeartbeats 1000000 in
theorem A33(g G q2 J I:Int)(K:-9223372036854775808<=g)(O:g<=9223372036854775807)(Z:-9223372036854775808<=G)(af:G<=9223372036854775807)(ax:-9223372036854775808<=q2)(bn:q2<=9223372036854775807)(cu:-9223372036854775808<=J)(cO:J<=9223372036854775807)(U:-9223372036854775808<=I)(W:I<=9223372036854775807):Au prog 13 #[.agg #[I4 g,I4 G,I4 q2,I4 J,I4 I]] [] (.agg #[I4 (Gh g G q2 J I).kd,I4 (Gh g G q2 J I).tb,I4 (Gh g G q2 J I).cl,I4 (Gh g G q2 J I).lo,I4 (Gh g G q2 J I).hi,I4 (Gh g G q2 J I).bq,I4 (Gh g G q2 J I).ot]):=by
 have B:=PM 7 B0 K O;have d9:=EL (g.tdiv 7) 3 B0
 have X:=PM 3 B0 U W;have gm:=EL (I.tdiv 3) 3 B0
 have gQ:=EL g 7 B0;have ic:=EL G 9 B0
 have ek:=EL G 4 B0;have j3:=EL q2 12 B0
 have j5:=EL J 14 B0;have kv:=EL I 3 B0
 refine Se func13 ntmps13 [0] ?_;intro u R;refine A3<|Ze (Bx #[_,_,_,_,_])<|AF fun bx=>Ze (Al RC #[_,_,_,_,_,_,_])<|AF fun br=>A4<|Zb [1,2] ?_;refine CP (e0:=[]) (H0:=[]) (fun e H=>∃(bq:Nat),(True)/\e=[(3,I5 bq)]/\H=[[(bq,.cells #[I4 ((1+CY g 7:Nat):Int),I4 (CY (g.tdiv 7) 3:Int),I4 0,I4 0,I4 0,I4 0,I4 0] 41 (0,0))]]) Wp ?hx_1 ?hy_1
 case hx_1=>
  refine Ay (n:=11) (0::1::3::7::0::16::48::119::255::0::1023::[]) 1668 AD AD rfl<|A1 0 rfl (BL (j:=0) cP A6 Y Y Q2)<|Bm 1 rfl AE Y ?_;refine A1 4 rfl (BL (j:=0) cP A6 Y Y Q2)<|Bm 5 rfl AE Y ?_;refine A1 6 V (vR (m:=g) (n:=7) Y Y B0 (IntWalk.i64_in _ (by have:=PM 7 B0 K O;omega)))<|Zz (l:=[2,9])<|BW [true,false] [(5,(_,_))] V rfl (Zu [_,_] Y ZS Y V (JU g 7 B0 B0 K O)) ?hk_2 (fun _ _ h=>h.elim) ?hl_2
  case' hk_2=>
   rintro _ _ ⟨rfl,rfl⟩;refine C3<|A1 3 V (EP (m:=1) Y Y A0)<|Zz (l:=[7,9])<|BW [false] [] V rfl (Zu [_,_] Y ZS Y V (JU (g.tdiv 7) 3 B0 B0 B.1 B.2)) ?hk_3 (fun _ _ h=>h.elim) ?hl_3
   case' hk_3=>
    rintro _ _ ⟨rfl,rfl⟩;refine C3<|A1 8 V (BN (vs:=[(0,I4 ((1+CY g 7:Nat):Int)),(1,I4 (CY (g.tdiv 7) 3:Int))]) (cs:=#[I4 ((1+CY g 7:Nat):Int),I4 (CY (g.tdiv 7) 3:Int),I4 0,I4 0,I4 0,I4 0,I4 0]) Y (Aa (pl:=#[(0,1),(1,1),(2,1),(3,1),(4,1),(5,1),(6,1)]) RC DB (fun _=>by kernel_rfl) AD))<|Yw 9 1023 V (Al RC #[_,_,_,_,_,_,_])<|AF fun bq=>Yw 10 2047 V (Xw D4 #[I4 ((1+CY g 7:Nat):Int),I4 (CY (g.tdiv 7) 3:Int),I4 0,I4 0,I4 0,I4 0,I4 0])<|F0<|Aq<|Hh (by exact ⟨bq,trivial,V,V⟩)
   case' hl_3=>
    refine BW [true] [(5,(_,_))] V rfl (Al RC #[_,_,_,_,_,_,_]) ?hk_7 (fun _ _ h=>h.elim) ?hl_7
    case' hk_7=>
     rintro _ _ ⟨bq,rfl,rfl⟩;refine ⟨Zk (Ab),?_⟩
    case' hl_7=>
     exact Aj
  case' hl_2=>
   refine BW [true,true] [(5,(_,_)),(1,(_,_))] V rfl (Al RC #[_,_,_,_,_,_,_]) ?hk_11 (fun _ _ h=>h.elim) ?hl_11
   case' hk_11=>
    rintro _ _ ⟨bq,rfl,rfl⟩;refine C3<|Yz 2 3 631 [5,1] [true,false] [(5,(_,_))] V Y V rfl V rfl (Zu [_,_] Y ZS Y V (JU g 7 B0 B0 K O))<|F0<|C3<|A1 3 V (EP (m:=1) Y Y A0) ?_
   case' hl_11=>
    exact Aj
  all_goals
   refine Yw 7 767 V (Zu [_,_] Y ZS Y V (JU (g.tdiv 7) 3 B0 B0 B.1 B.2))<|F0<|A1 8 V (BN (vs:=[(0,I4 ((1+CY g 7:Nat):Int)),(1,I4 (CY (g.tdiv 7) 3:Int))]) (cs:=#[I4 ((1+CY g 7:Nat):Int),I4 (CY (g.tdiv 7) 3:Int),I4 0,I4 0,I4 0,I4 0,I4 0]) Y (Aa (pl:=#[(0,1),(1,1),(2,1),(3,1),(4,1),(5,1),(6,1)]) RC DB (fun _=>by kernel_rfl) AD))<|Yw 10 2047 V (Xw D4 #[I4 ((1+CY g 7:Nat):Int),I4 (CY (g.tdiv 7) 3:Int),I4 0,I4 0,I4 0,I4 0,I4 0])<|F0<|Aq<|Hh (by exact ⟨bq,trivial,V,V⟩)
 rintro _ _ ⟨bq,_,rfl,rfl⟩;refine Zq<|A3<|Zh 0 DB V rfl A6 Y<|Zl AE Y ?_;refine Zv (CJ (n:=1) Y Y)<|A4<|Ak Y (fun k1=>?_) (fun k1=>?_);·
  refine A3<|BX (BL (j:=1) cP A6 Y Y Q2)<|Zl AE Y ?_;refine Xr [_,_] Y ZS Y V (JU G 9 B0 B0 Z af) ?_;refine Ya (m:=1) Y Y<|Zh 3 DB V rfl A6 Y<|Xe (Zs A6 Y Y V (hi:=by(simp;done))) ?_;refine A4<|A3<|Zh 3 DB V rfl A6 Y<|Zl AE Y ?_;refine Zh 4 DB V rfl A6 Y<|Xe (Zs A6 Y Y V (hi:=by(simp;done))) ?_;refine Z0<|Zn [2,3] ?_;refine C6<|Zo Wh (A9 (cs:=#[_,_,_,_,_,_,_]) Fm D4 Y B5 (by exact Az V)) ?_;refine Xe (BJ D4 Y Y K0 Wu (by exact Dz rfl) G4 B0 (by exact BB _)) ?_;refine A4<|AL<|Zt<|D7 V results13 Y Wh (Av Fm D4 Wn (Az V)) (by
   refine ⟨?_,V⟩;unfold Gh;rw [Ax A0]<;>rfl)
 refine AC<|C6<|BX (BL (j:=1) cP A6 Y Y Q2)<|Zl AE Y ?_;refine Xr [_,_] Y ZS Y V (JU G 4 B0 B0 Z af) ?_;refine Zh 2 DB V rfl A6 Y<|Xe (Zs A6 Y Y V (hi:=by(simp;done))) ?_;refine A4<|A3<|BX (BL (j:=2) cP A6 Y Y Q2)<|Zl AE Y ?_;refine Xr [_,_] Y ZS Y V (JU q2 12 B0 B0 ax bn) ?_
 (refine BX (GZ Y Y (IntWalk.i64_in _ ?_)) ?_;(focus (omega)))
 refine Zh 3 DB V rfl A6 Y<|Xe (Zs A6 Y Y V (hi:=by(simp;done))) ?_;refine Z0<|Zn [1,2,3] ?_;refine Zx<|Zq<|Ay (n:=8) (0::1::0::4::12::31::63::127::[]) 144 AD AD V<|A1 0 V (AB (off:=3) DB V rfl A6 Y)<|Bm 1 V AE Y ?_;refine A1 2 rfl (BL (j:=3) cP A6 Y Y Q2)<|Bm 3 rfl AE Y ?_;refine Yz 4 12 31 [3,1] [false,true] [(1,(_,_))] V Y V rfl V rfl (Zu [_,_] Y ZS Y V (JU J 14 B0 B0 cu cO)) ?_;rintro _ _ ⟨rfl,rfl⟩;refine ⟨Zk (Ab),?_⟩
 (refine F5 (D':=63) 5 (J6 Y Y (IntWalk.i64_in _ ?_)) ?_;(focus (omega)))
 refine A1 6 V (AB (off:=4) DB V rfl A6 Y)<|Zz (l:=[7])<|BW [false] [] V rfl (Zs A6 Y Y V (hi:=by(simp;done))) ?_ (fun _ _ h=>h.elim) Aj;rintro _ _ ⟨rfl,rfl⟩;refine C3<|Aq<|Zx<|Zb [1,2,3] ?_;refine CP (e0:=[]) (H0:=[[(bq,.cells #[I4 ((1+CY g 7:Nat):Int),I4 (CY (g.tdiv 7) 3:Int),I4 (CY G 4:Int),I4 ((CY q2 12:Int) -3),I4 ((CY q2 12:Int) -3+(CY J 14:Int)),I4 0,I4 0] 41 (0,0))]]) (fun e H=>∃(w5:Int),(w5=if 3<=CY g 7 then((1+CY I 3:Nat):Int)else 0)/\e=[]/\H=[[(bq,.cells #[I4 ((1+CY g 7:Nat):Int),I4 (CY (g.tdiv 7) 3:Int),I4 (CY G 4:Int),I4 ((CY q2 12:Int) -3),I4 ((CY q2 12:Int) -3+(CY J 14:Int)),I4 w5,I4 0] 41 (0,0))]]) Wp ?hx_19 ?hy_19
 case' hx_19=>
  refine A3<|Zh 0 DB V rfl A6 Y<|Zl AE Y ?_;refine Zv (Ef (n:=4) Y Y)<|A4<|Ak Y (fun k2=>?_) (fun k2=>?_);focus
   refine Zg<|BX (BL (j:=4) cP A6 Y Y Q2)<|Zl AE Y ?_;refine Xr [_,_] Y ZS Y V (JU I 3 B0 B0 U W) ?_;refine Ya (m:=1) Y Y<|Zh 5 DB V rfl A6 Y<|Xe (Zs A6 Y Y V (hi:=by(simp;done))) ?_;refine Z0<|Zn [1,2,3] ?_
  rotate_left
  refine AC<|Hh (by exact ⟨0,(As A0).symm,V,V⟩)
 case' hy_19=>
  rintro _ _ ⟨w5,gq,rfl,rfl⟩;refine Zb [1,2,3] ?_;refine CP (e0:=[(1,_)]) (H0:=[[(bq,.cells #[I4 ((1+CY g 7:Nat):Int),I4 (CY (g.tdiv 7) 3:Int),I4 (CY G 4:Int),I4 ((CY q2 12:Int) -3),I4 ((CY q2 12:Int) -3+(CY J 14:Int)),I4 w5,I4 0] 41 (0,0))]]) (fun e H=>∃(w6:Int),(w6=if CY g 7=6 then(CY (I.tdiv 3) 3:Int)else 0)/\e=[]/\H=[[(bq,.cells #[I4 ((1+CY g 7:Nat):Int),I4 (CY (g.tdiv 7) 3:Int),I4 (CY G 4:Int),I4 ((CY q2 12:Int) -3),I4 ((CY q2 12:Int) -3+(CY J 14:Int)),I4 w5,I4 w6] 41 (0,0))]]) Wp ?hx_22 ?hy_22
  case' hx_22=>
   refine A3<|Zh 0 DB V rfl A6 Y<|Zl AE Y ?_;refine Zv (CJ (n:=7) Y Y)<|A4<|Ak Y (fun k3=>?_) (fun k3=>?_);focus
    refine Zg<|BX (BL (j:=4) cP A6 Y Y Q2)<|Zl AE Y ?_;refine Zv (vR (m:=I) (n:=3) Y Y B0 (IntWalk.i64_in _ (by have:=PM 3 B0 U W;omega)))<|Xr [_,_] Y ZS Y V (JU (I.tdiv 3) 3 B0 B0 X.1 X.2) ?_;refine Zh 6 DB V rfl A6 Y<|Xe (Zs A6 Y Y V (hi:=by(simp;done))) ?_;refine Z0<|Zn [2,3] ?_
   rotate_left
   refine AC<|Hh (by exact ⟨0,(As A0).symm,V,V⟩)
  case' hy_22=>
   rintro _ _ ⟨w6,gy,rfl,rfl⟩;refine A3<|Zo Wh (A9 (cs:=#[_,_,_,_,_,_,_]) Fm D4 Y B5 (by exact Az V)) ?_;refine Xe (BJ D4 Y Y K0 Wu (by exact Dz rfl) G4 B0 (by exact BB _)) ?_;refine A4<|AL<|D7 V results13 Y Wh (Av Fm D4 Wn (Az V)) (by
    refine ⟨?_,V⟩;unfold Gh;rw [As A0,<-gq,<-gy]<;>rfl)
 all_goals
  refine BR (e':=[]) (by exact ⟨_,(Ax A0).symm,V,V⟩)
variable{q:QM}
set_option maxHeartbeats 1000000 in
theorem YZ{p:BE}(J:Dx M (.slice p l.length cap) l)(g:EY l)(U:l.length<=1000000)(a:Nat)(O:a<=l.length)(hq:BH q)(B:(CU (BQ (l.take a)) q).length<=100)(te:Int)(K:AM)(X:Nat×Nat):BS prog 12 #[.slice p l.length cap,I4 (a:Int),.agg q.BM5,I4 te] [[(0,.cells (Dn.map CW).toArray K X)],M] (fun w H'=>∃(mem:List A8) (I:BE) (G:Nat),FV mem (.slice I (EN (BQ (l.take a)) q).length G) (EN (BQ (l.take a)) q)/\w= .agg #[I4 q.kd,I4 q.tb,I4 q.cl,I4 q.lo,I4 q.hi,I4 q.bq,I4 q.ot,I4 te,I4 (a:Int),.slice I (EN (BQ (l.take a)) q).length G]/\H'=[mem,[(0,.cells (Dn.map CW).toArray K X)],M]):=by
 have cO:=mL;obtain ⟨p9,Z,e9,⟨bn,cu⟩,_⟩:=id J;injection e9 with e91 e92 e93
 subst e91 e93;obtain ⟨hs,hn⟩:=g.rows a O;have W:=g.rowsOk a O
 obtain ⟨L,hL⟩:∃L,L=EN (BQ (l.take a)) q:=⟨_,rfl⟩;rw [<-hL];refine Se func12 ntmps12 [0,1,2,3] ?_;intro u R;refine A3<|Ze (Bx q.BM5)<|AF fun bq=>Ze (FM fN (cs:=#[I4 0,I4 0,I4 0,I4 0,I4 0,I4 0,I4 0,I4 0,I4 0,.slice none 0 0]) AD)<|AF fun be=>A4<|AK Y<|Zm Y<|Zc [_,_] Y call14 Y V (uG J g U a O) ?_;rintro _ _ ⟨_,⟨vs,ss,rfl,hS,rfl⟩,rfl⟩;refine Zm Y<|Zd Y V<|Zd Y V<|Za Y<|AH Y<|AK Y<|Zo Wh (A9 (cs:=#[_,_,_,_,_,_,_]) Fm D4 Y B5 (by exact Az V)) ?_;refine Zc [_,_] Y call40 Y V (xe _ _ _ _ hS hs hn W q hq B K X) ?_;rintro _ _ ⟨_,⟨vo,mem,rfl,m,rfl⟩,rfl⟩;rw [<-hL]at m;obtain ⟨I,G,rfl,af,ax⟩:=m.form;refine Zm Y<|Zd Y V<|Zd Y V<|Za Y<|B2 Y<|Zn [1,3,6,8,11] ?_;refine C6<|Zo Wh (A9 (cs:=#[_,_,_,_,_,_,_]) Fm D4 Y B5 (by exact Az V)) ?_;refine Zm Y<|Zm Y<|Zm Y<|Zv (BN (vs:=[(0,.agg q.BM5),(1,I4 te),(2,I4 (a:Int)),(3,.slice I L.length G)]) (cs:=#[I4 q.kd,I4 q.tb,I4 q.cl,I4 q.lo,I4 q.hi,I4 q.bq,I4 q.ot,I4 te,I4 (a:Int),.slice I L.length G]) Y (Aa (pl:=#[(0,7),(7,1),(8,1),(9,1)]) fN HF (fun _=>by kernel_rfl) AD))<|Xe (BJ I3 Y Y K0 Wu (by exact Dz rfl) G4 B0 (by exact BB _)) ?_;refine A4<|AL<|D7 V results12 Y Wh (Av ZD I3 Wn (Az V)) (by exact ⟨mem,I,G,m,V,V⟩)
theorem ni{st g:C8×Int}(h:Fs q (a:Int) 0 st (G5 l a b)=some g):Fs q (a:Int) 0 st ((l.drop a).take (b -a))=some g:=h
theorem kM(g:EY l)(m:l.length<=20)(J:a<=b)(K:b<=l.length)(I:BH q){x:Nq}(h:RB l a b q=some x):x=⟨q,Cj (BQ (l.take b)) q,x.since,(b:Int),(a:Int),EN (BQ (l.take a)) q,G5 l a b⟩/\kV q l a (b -a) x.since:=by
 obtain ⟨O,hn⟩:=g.rows a A0;have G:=TA O hn (g.rowsOk a A0) I (ZX g m A0 q)
 have B:=Ws (l:=l) (a:=a) K;unfold RB at h;rw [Kt G A0]at h;cases hr:Fs q (a:Int) 0 (Cj (BQ (l.take a)) q,(a:Int)) (G5 l a b)with
 |none=>rw [hr]at h;cases h
 |some st=>
  rw [hr]at h;injection h with h
  obtain ⟨e1,e2⟩:=NH I g (by omega:a<=l.length) (b -a) A0 st (ni hr);rw [show a+(b -a)=b by omega]at e1;subst h;refine ⟨?_,e2⟩;simp only [B,e1];congr 1;omega
variable{rs:List AV}
theorem bH(g:BM rs)(hn:rs.length<=2000)(q:QM):∀x∈EN rs q,x.small:=fun x hx=>by
 unfold EN at hx;rcases DS.1 hx with rfl|hx
 · exact ⟨RY g hn _ _ _ _,MZ g hn _ _ _ _⟩
 · split at hx
   · obtain ⟨r,_,rfl⟩:=CI.1 hx
     exact ⟨RY g hn _ _ _ _,MZ g hn _ _ _ _⟩
   · cases hx
theorem pQ(B:BM rs)(hn:rs.length<=2000)(g:∀r∈rs,r.ok)(m:BH q):∀x∈EN rs q,QG (Ll rs) x:=fun x hx=>by
 have I:=m.1;have h2:=m.2.1
 have G:=m.2.2.1.2.1;have J:0<=q.ot/\q.ot<=3:=by have:=m.2.2.2;omega
 unfold EN at hx;rcases DS.1 hx with rfl|hx
 · exact Vs B hn g _ _ A0 A0 _ _ G
 · split at hx
   · obtain ⟨r,_,rfl⟩:=CI.1 hx
     exact Vs B hn g _ _ A0 A0 _ _ (Z1 _)
   · cases hx
theorem ZG{l:List BF}(m:EY l)(J:l.length<=9000){st:Bs}(g:st.length=32){a:Nat}:∀k,a+k<=l.length->∃h,Gp st (E8 l a) ((l.drop a).take k)=some h/\h.p=((a+k:Nat):Int)/\h.ch=(E8 l (a+k)).ch/\h.ok/\(k=0->h=E8 l a)/\(0<k->h.st=st)
 |0,hk=>by
  obtain ⟨X,h2,_⟩:=Kk m J a A0;exact ⟨E8 l a,by rw [JT];rfl,h2,rfl,X,fun _=>rfl,fun h=>by omega⟩
 |k+1,hk=>by
  obtain ⟨h,e1,e2,U,W,_,_⟩:=ZG m J g (a:=a) k A0;obtain ⟨r,G⟩:∃r,l[a+k]?=some r:=⟨_,BT A0⟩;have I:(l.drop a)[k]?=some r:=by rw [Pc];exact G
  obtain ⟨K,_⟩:=m _ r G;have O:r.p=((a+k:Nat):Int)+1:=K.pos
  have B:FW h r st:=⟨K.ok,W,g,by rw [e2];exact O⟩;refine ⟨Ii h r st,by rw [OB e1 I,Ax B],by show r.p=_;rw [O];rfl,?_,⟨⟨by show 0<=r.p;omega,by show r.p<=10000;omega⟩,Rk _ _,g⟩,fun h=>by omega,fun _=>rfl⟩;show Hq h.ch _=_
  rw [U,show a+(k+1)=a+k+1 by omega,Oa G];rfl
theorem dL(m:EY l)(g:l.length<=9000)(O:a<=b)(U:b<=l.length):Hy (E8 l a) (G5 l a b) (E8 l b):=by
 obtain ⟨J,_,_⟩:=Kk m g a A0;obtain ⟨h2,K,X⟩:=Kk m g b U;obtain ⟨h,e1,e2,B,W,G,I⟩:=ZG m g h2.2.2 (a:=a) (b -a) A0;refine ⟨J,h2,?_⟩;unfold G5;rw [e1];rcases Rg (b -a)with h0|h0
 · rw [G h0,show a=b by omega]
 · rw [show a+(b -a)=b by omega]at e2 B
   exact congrArg some (mH.2 ⟨by rw [e2,K],B,I h0⟩)
theorem Nq.eqv_refl(a:Nq):a.eqv a:=⟨rfl,rfl,rfl,rfl,rfl,rfl,rfl⟩
theorem eT(g:EY l)(B:l.length<=20)(m:a<=b)(G:b<=l.length)(J:BH q){x:Nq}(h:RB l a b q=some x):Jl (E8 l a) (E8 l b) x:=by
 obtain ⟨O,hn⟩:=g.rows a A0;obtain ⟨e,_⟩:=kM g B m G J h;have h2:=(Kk g A0 b G).2.1
 obtain ⟨_,K,I⟩:=Kk g A0 a A0;unfold RB at h;have hx:x.q=q/\x.base=(a:Int)/\x.ranges=EN (BQ (l.take a)) q/\x.recs=G5 l a b/\x.until_=(b:Int):=by rw [e];exact ⟨rfl,rfl,rfl,rfl,rfl⟩
 refine ⟨by rw [K,hx.2.1],by rw [h2,hx.2.2.2.2],by rw [hx.2.2.2.1];exact dL g A0 m G,fun y hy=>?_,x,by rw [hx.1,hx.2.1,hx.2.2.1,hx.2.2.2.1];exact h,x.eqv_refl⟩;rw [I];exact pQ O hn (g.rowsOk a A0) J y (by rw [<-hx.2.2.1];exact hy)
def exQ:QM:=⟨3,0,1,10,19,0,0⟩
theorem Uo:BH exQ:=by decide
theorem Tu(g:BM rs)(hn:rs.length<=2000)(t c:Nat)(lo hi:Int):(Eh rs t c lo hi).fits:=by
 have m:=Ih g (t:Int) c;refine ⟨?_,?_,?_,MZ g hn t c lo hi⟩
 · show(List.take _ (List.drop _ (BO rs (t:Int) c))).length<=_
   rw [Cd,Cp];omega
 · show(Iu _ _ _).length<=_
   have h2:toT (BO rs (t:Int) c) c hi<=(BO rs (t:Int) c).length:=tG _ _;unfold Iu;rw [Bk,cX];omega
 · show(Sz rs).length<=_
   unfold Sz;rw [Bk];decide
theorem jF(g:BM rs)(hn:rs.length<=2000)(q:QM):∀x∈EN rs q,x.fits:=fun x hx=>by
 unfold EN at hx;rcases DS.1 hx with rfl|hx
 · exact Tu g hn _ _ _ _
 · split at hx
   · obtain ⟨r,_,rfl⟩:=CI.1 hx
     exact Tu g hn _ _ _ _
   · cases hx
structure Np(l:List BF):Prop where
 ok:EY l
 len:l.length<=1000
 scan:∀a,a<=l.length->∀q,(CU (BQ (l.take a)) q).length<=100
theorem EY.toB(h:EY l)(m:l.length<=20):Np l:=⟨h,by omega,fun a g q=>ZX h m g q⟩
theorem Np.start(h:Np l)(g:a<=l.length)(m:BH q):EJ q (EN (BQ (l.take a)) q)=some (Cj (BQ (l.take a)) q):=TA (h.ok.rows a g).1 (h.ok.rows a g).2 (h.ok.rowsOk a g) m (h.scan a g q)
theorem Np.make_len(h:Np l)(g:a<=l.length)(q:QM):(EN (BQ (l.take a)) q).length<=101:=by
 have m:=pR (BQ (l.take a)) q;have h2:=h.scan a g q
 omega
theorem Np.fits(h:Np l)(g:a<=l.length)(q:QM):∀x∈EN (BQ (l.take a)) q,x.fits:=jF (h.ok.rows a g).1 (h.ok.rows a g).2 q
def tH(l:List BF)(P:Nat)(win:List BF):Prop:=win.length<=P/\win.map BF.pc=((l.take P).drop (P -win.length)).map BF.pc
theorem Sl(l:List BF)(P:Nat):tH l P []:=⟨CM _,by
 rw [List.drop_eq_nil_of_le (by simp only [Cd,MY];omega)]⟩
variable{P:Nat}
theorem nH{W W':List BF}{x:BF}(h:tH l P W)(hx:l[P]?=some x)(g:r.pc=x.pc)(m:KE W W' r):tH l (P+1) W':=by
 obtain ⟨J,h2⟩:=h;have G:=(C7.1 hx).1
 have I:(l.take P).length=P:=by rw [Cd];omega
 unfold tH;rw [Bl hx];rcases m with⟨rfl,B⟩|⟨rfl,B⟩
 · rw [C0,GC,show P+1 -(W.length+1)=P -W.length by omega,kf A0,CN,CN,h2,S0,S0,g]
   exact ⟨by omega,V⟩
 · have e:((W++[r]).drop 1).length=64:=by rw [Cp,C0,GC];omega
   have e1:(W++[r]).drop 1=W.drop 1++[r]:=kf A0;have e2:(l.take P++[x]).drop (P+1 -64)=(l.take P).drop (P+1 -64)++[x]:=kf A0
   rw [e,e1,e2,CN,CN,lf,h2,<-lf,cG,show P -W.length+1=P+1 -64 by omega,S0,S0,g];exact ⟨by omega,V⟩
theorem NC{win:List BF}(h:tH l P win)(m:a<=P)(B:P -a<=win.length):(Dj (P:Int) (a:Int) win).map BF.pc=(G5 l a P).map BF.pc:=by
 obtain ⟨g,h2⟩:=h;unfold Dj G5;rw [show((P:Int) -(a:Int)).toNat=P -a by omega,lf,h2,<-lf,cG,show P -win.length+(win.length -(P -a))=a by omega,ia]
structure Ip(l:List BF)(P:Nat)(c:CZ):Prop where
 ok:c.ok
 pos:c.pos=(P:Int)
 le:P<=l.length
 win:tH l P c.win
 src:∀x∈c.its,∃a:Nat,x.base=(a:Int)/\a<=l.length/\x.L=EN (BQ (l.take a)) x.q
theorem Ip.at{l:List BF}(K:Np l){P:Nat}{c:CZ}(h:Ip l P c){x:ItM}(hx:x∈c.its):∃a:Nat,x.base=(a:Int)/\a<=l.length/\x.L=EN (BQ (l.take a)) x.q/\(a<=P->P -a<=c.win.length/\x.res=Cj (BQ (l.take P)) x.q/\kV x.q l a (P -a) x.since/\Fs x.q (a:Int) 0 (Cj (BQ (l.take a)) x.q,(a:Int)) (G5 l a P)=some (x.res,x.since))/\(P<=a->x.res=Cj (BQ (l.take a)) x.q/\x.since=(a:Int)):=by
 obtain ⟨a,I,h2,J⟩:=h.src x hx;have B:=h.ok.all x hx
 obtain ⟨W,m,g⟩:=B.run;rw [J,K.start h2 B.q]at m;injection m with m
 subst m;have G:=B.reach
 rw [h.pos,I]at g G;refine ⟨a,I,h2,J,fun O=>?_,fun O=>?_⟩
 · have e:=NC h.win O A0
   rw [NF e]at g;have U:=h.le
   obtain ⟨e1,e2⟩:=NH B.q K.ok h2 (P -a) A0 _ g;rw [show a+(P -a)=P by omega]at e1;exact ⟨by omega,e1,e2,g⟩
 · rw [M0 A0]at g
   injection g with g
   exact ⟨(congrArg Prod.fst g).symm,(congrArg Prod.snd g).symm⟩
variable{d c:CZ}
theorem Ip.put(h:Ip l P c)(G:d.ok)(g:c.like d){tn:Int}(B:a<=l.length){R:C8×Int×Bool}{b:Bool}(m:uc c d q tn (a:Int) (EN (BQ (l.take a)) q) R b):Ip l P d:=by
 refine ⟨G,g.pos.trans h.pos,h.le,by rw [g.win];exact h.win,fun x hx=>?_⟩;rcases m with⟨_,rfl,_⟩|⟨_,_,_,⟨rfl,_⟩|⟨_,y,e,e1,e2,e3,_⟩⟩
 · exact h.src x hx
 · exact h.src x hx
 · rw [e]at hx
   rcases CD.1 hx with hx|hx
   · exact h.src x (GF.1 hx).1
   · rw [CH.1 hx,e1,e2,e3];exact ⟨a,rfl,B,rfl⟩
variable{q2:BE}{cap2:Nat}{zs:List CA}
theorem Ip.apply(I:Np l)(h:Ip l P c)(m:l[P]?=some r)(g:Hz c d r.p r.cs q2 cap2 zs):Ip l (P+1) d:=by
 have J:=(C7.1 m).1;have B:=(I.ok P r m).1.pos
 refine ⟨g.ok,by rw [g.pos,B];push_cast;rfl,by omega,nH (r:=⟨r.p,q2,cap2,r.cs⟩) h.win m rfl g.win,fun y hy=>?_⟩;obtain ⟨_,x,hx,hc,_⟩:=g.i1 y hy;obtain ⟨_,_,e1,_,e2,_,_,G⟩:=IX hc;rw [e1,e2,G];exact h.src x hx
theorem Ip.next(m:Np l)(h:Ip l P c)(B:l[P]?=some r):Db r.p r.cs/\r.p=c.pos+1:=by
 have g:=(m.ok P r B).1;exact ⟨g.ok,by rw [g.pos,h.pos]⟩
theorem Ip.part(h:Ip l P c)(m:d.ok)(g:c.like d)(B:∀x∈d.its,x∈c.its):Ip l P d:=⟨m,g.pos.trans h.pos,h.le,by rw [g.win];exact h.win,fun x hx=>h.src x (B x hx)⟩
theorem dU(lt:Int->Int->Bool):∀(ms:List Int) (r:C8),(ms.foldl (fun r n=>(⟨r.rows,if !r.fnd||lt n r.val then n else r.val,true⟩:C8)) r).rows=r.rows
 |[],_=>rfl
 |n::ms,r=>by rw [XS,dU lt ms]
theorem rF(rs:List AV)(q:QM):(Cj rs q).rows.length<=2*(CU rs q).length:=by
 have g:=UR q (CU rs q) (Ia rs q.ot);have hx:∀lt ms,(Ei lt ms).rows=[]:=fun lt ms=>dU lt ms C8.none
 unfold Cj Fb;split;· exact CM _
 · split
   · exact CM _
   · split
     · rw [hx];exact CM _
     · split
       · rw [hx];exact CM _
       · split
         · exact g
         · show(CU rs q).length<=_;omega
variable{n:Nat}
theorem aU(J:Np l)(h:Ip l P c)(O:BH q)(G:a<=l.length)(hn:∀b,b<=l.length->(Cj (BQ (l.take b)) q).rows.length<=n)(B:(c.pos -(a:Int)).toNat<=c.win.length):(BI q (Cj (BQ (l.take a)) q) (a:Int) (Dj c.pos (a:Int) c.win)).1.rows.length<=n:=by
 cases hr:(BI q (Cj (BQ (l.take a)) q) (a:Int) (Dj c.pos (a:Int) c.win)).2.2 with
 |false=>
  have g:BI q (Cj (BQ (l.take a)) q) (a:Int) (Dj c.pos (a:Int) c.win)=(C8.none,0,false):=by
   unfold BI at hr⊢;split at hr;· cases hr
   · rfl
  rw [g];exact CM _
 |true=>
  have g:=MU hr;rw [h.pos]at g B⊢;by_cases m:a<=P
  · rw [NF (NC h.win m A0)]at g
    have K:=h.le;have h2:=(NH O J.ok G (P -a) A0 _ g).1
    have I:(BI q (Cj (BQ (l.take a)) q) (a:Int) (Dj (P:Int) (a:Int) c.win)).1=_:=h2;rw [I];exact hn _ A0
  · rw [M0 A0]
    exact hn a G
def fC(l:List BF)(P:Nat)(c:CZ)(q:QM)(a:Nat):Prop:=P -a<=c.win.length/\∃st,Fs q (a:Int) 0 (Cj (BQ (l.take a)) q,(a:Int)) (G5 l a P)=some st
theorem WR(h:P<=a):fC l P c q a:=⟨by omega,(Cj (BQ (l.take a)) q,(a:Int)),by
 rw [show G5 l a P=[] by unfold G5;rw [show P -a=0 by omega,JT]];rfl⟩
def zA(l:List BF)(P:Nat)(c d:CZ)(q:QM)(tn:Int)(a:Nat)(n:Nat)(b:Bool):Prop:=
 (b=false/\d=c/\¬fC l P c q a)\/
 (b=true/\fC l P c q a/\(∀e∈d.PL,e∈c.PL\/e.sz<=1+(n:Int))/\
   ((d=c/\∃x∈c.its,x.key=str (DI q)/\(a:Int)<=x.base)\/
    ((∀x∈c.its,x.key=str (DI q)->x.base<(a:Int))/\∃y:ItM,d.its=(c.its.filter fun x=>x.key≠str (DI q))++[y]/\y.q=q/\y.base=(a:Int)/\((y.tn=tn/\∀x∈c.its,x.key≠str (DI q))\/∃x∈c.its,x.key=str (DI q)/\y.tn=x.tn))))
theorem WS(h:Ip l P c):((c.pos -(a:Int)).toNat<=c.win.length/\(BI q (Cj (BQ (l.take a)) q) (a:Int) (Dj c.pos (a:Int) c.win)).2.2=true)↔fC l P c q a:=by
 rw [h.pos];unfold fC;rw [show((P:Int) -(a:Int)).toNat=P -a by omega];by_cases g:P -a<=c.win.length
 · have e:Fs q (a:Int) 0 (Cj (BQ (l.take a)) q,(a:Int)) (Dj (P:Int) (a:Int) c.win)=Fs q (a:Int) 0 (Cj (BQ (l.take a)) q,(a:Int)) (G5 l a P):=by
    by_cases B:a<=P
    · exact NF (NC h.win B g)
    · rw [M0 A0,show G5 l a P=[] by unfold G5;rw [show P -a=0 by omega,JT]]
   unfold BI;rw [e];constructor
   · rintro ⟨_,h2⟩
     refine ⟨g,?_⟩;split at h2;· rename_i st h3;exact ⟨st,h3⟩
     · cases h2
   · rintro ⟨_,st,h2⟩
     rw [h2];exact ⟨g,V⟩
 · exact ⟨fun m=>absurd m.1 g,fun m=>absurd m.1 g⟩
theorem qu(g:Np l)(h:Ip l P c)(I:BH q)(hk:k<c.ns)(W:k<=1000000)(m:a<=l.length){pg:BE}{cg:Nat}{J:List A8}(hL:FV J (.slice pg (EN (BQ (l.take a)) q).length cg) (EN (BQ (l.take a)) q))(af:c.next<1000000000)(B:c.its.length<500)(hn:∀b,b<=l.length->(Cj (BQ (l.take b)) q).rows.length<=n)(bn:1+(n:Int)<=c.z.fr)(K:AM)(zp:Nat×Nat):
 BS prog 11 #[.pointer (some ⟨c.cp,0,none⟩),.agg #[I4 q.kd,I4 q.tb,I4 q.cl,I4 q.lo,I4 q.hi,I4 q.bq,I4 q.ot,I4 (k:Int),I4 (a:Int),.slice pg (EN (BQ (l.take a)) q).length cg]] [c.mem,J,[(3,.cells (Lib.pow10Tab.map fun z=>Value.int .u64 z).toArray K zp)]] (fun w H'=>∃(b:Bool) (d:CZ),w= .bool b/\Ip l P d/\c.like d/\(c.next<=d.next/\d.next<=c.next+1)/\zA l P c d q (k:Int) a n b/\H'=[d.mem,J,[(3,.cells (Lib.pow10Tab.map fun z=>Value.int .u64 z).toArray K zp)]]):=by
 have X:=g.len;refine (zT h.ok I hk W (a:Int) ⟨by omega,by omega⟩ hL (by have:=g.make_len m q;omega) (g.fits m q) (g.start m I) af B (fun ax=>by have:=aU g h I m hn ax;omega) K zp).mono ?_;rintro w H' ⟨b,d,rfl,hd,G,Z,hP,rfl⟩;refine ⟨b,d,V,h.put hd G m hP,G,Z,?_,V⟩;rcases hP with⟨O,h2,U⟩|⟨O,h2,U,h4⟩
 · exact .inl ⟨O,h2,fun h9=>U ((WS h).2 h9)⟩
 · refine .inr ⟨O,(WS h).1 h2,fun e he=>(U e he).imp id fun h9=>by have:=aU g h I m hn h2.1;omega,?_⟩
   rcases h4 with h4|⟨h4,y,e1,e2,e3,_,_,_,e4⟩
   · exact .inl h4
   · exact .inr ⟨h4,y,e1,e2,e3,e4⟩
theorem jL(G:Np l)(h:Ip l P c)(I:l[P]?=some r){m:List A8}(K:CL m (.slice r.q r.cs.length r.cap) r.cs):BS prog 15 #[.pointer (some ⟨c.cp,0,none⟩),.agg #[I4 r.p,.slice r.q r.cs.length r.cap]] [c.mem,m] (fun w H'=>∃(d:CZ) (q2:BE) (cap2:Nat) (zs:List CA) (tv:A2) (s:List A8),w= .tuple #[tv,I4 0]/\Ip l (P+1) d/\Hz c d r.p r.cs q2 cap2 zs/\Row 9 tv (zs.map Value.string) s/\H'=[d.mem,m,s]):=by
 obtain ⟨J,h2⟩:=h.next G I;refine (xl h.ok K J h2).mono ?_;rintro w H' ⟨d,q2,cap2,zs,tv,s,rfl,B,g,rfl⟩;exact ⟨d,q2,cap2,zs,tv,s,V,h.apply G I B,B,g,V⟩
theorem um{p:BE}(h:Dx M (.slice p l.length cap) l)(G:l[i]?=some r):CL M (.slice r.q r.cs.length r.cap) r.cs/\∃g off cur T zz,p=some ⟨g,off,none⟩/\(g,Obj.cells cur T zz)∈M/\off+i*2+2<=cur.size/\cur.extract (off+i*2) (off+i*2+2)=#[I4 r.p,.slice r.q r.cs.length r.cap]:=by
 obtain ⟨I,m,e,_,B⟩:=h;injection e with e1 e2 e3
 subst e1 e3;exact B i r G
theorem Yy(g:1<=q.kd/\q.kd<=4)(r:C8)(cs:List Chg):(Bf q r cs).2.2=true:=by
 obtain ⟨B,m⟩:=TS g cs r;unfold Bf;rw [m]
theorem A68{K:CA}(g:∀k,k∈zs↔k=K)(h2:zs.Nodup):zs=[K]:=by
 cases zs with
 |nil=>exact absurd ((g K).2 rfl) B7
 |cons a l=>
  have m:=(g a).1 (Fo ..);subst m;cases l with
  |nil=>rfl
  |cons b l=>
   have B:=(g b).1 B7;subst B;simp at h2
variable{e:AM}{xs:List A2}{s:List A8}
theorem v7(h:Row e v xs s)(hx:0<xs.length):∃g cap cur z,v=I6 g xs.length cap/\s=[(g,.cells cur e z)]/\xs.length<=cur.size/\∀i,i<xs.length->cur[i]?=xs[i]?:=by
 rcases h with⟨_,h0,_⟩|⟨g,cap,cur,z,rfl,rfl,h1,h2,h3,h4,h5⟩
 · rw [h0]at hx;cases hx
 · refine ⟨g,cap,cur,z,rfl,rfl,by omega,fun i hi=>?_⟩
   have h:=congrArg (fun l=>l[i]?) h4;simp only [HR,Ax hi]at h;simpa using h
theorem aJ(g:Nat)(v:A2):Row e (I6 g 1 1) [v] [(g,.cells #[v] e (0,0))]:= .inr ⟨g,1,#[v],(0,0),rfl,rfl,D0 1,by decide,rfl,rfl,BB _⟩
theorem AF2(h:c.okb)(B:c.ns=1){x:ItM}(hi:c.its=[x])(G:∀e∈c.PL,e.sz<=1):Fg c.PL ((0:Nat):Int)=1:=by
 have h2:(c.PL.map (·.key)).Perm (c.its.map ItM.key):=(T7 h.pool.keys h.its.keys).2 h.pk;have m:=h2.length_eq
 rw [Bk,Bk,hi]at m
 match hP:c.PL,m with
 |[e],_=>
  have g:e∈c.PL:=by rw [hP];simp
  have I:=h.pool.te e g;have J:=h.pool.sz e g
  have K:=G e g;unfold Fg;rw [S0,List.sum_singleton,Ax A0];omega
def exD(k a b:Int):Chg:=⟨0,k,false,⟨0,0,0⟩,true,⟨a,b,7⟩⟩
def dX(p1 p2:BE):List BF:=[⟨1,p1,1,[exD 5 10 2]⟩,⟨2,p2,1,[exD 6 11 9]⟩]
variable{p:Int}
theorem vP{k a b:Int}(g:1<=p/\p<=10000)(h:(exD k a b).ok):Db p [exD k a b]:=⟨g,⟨D0 _,by show 1<=8;decide⟩,fun i c hc=>by
 match i,hc with
 |0,hc=>injection hc with hc;rw [<-hc];exact h
 |i+1,hc=>simp at hc,fun i b c m hc=>by simp at hc⟩
theorem mK{k a b:Int}(m:1<=p+1/\p+1<=10000)(h:(exD k a b).ok)(g:Gd rs (exD k a b))(hz:H5 rs [exD k a b]<=2000):Ky rs p (p+1) [exD k a b]:=⟨vP m h,rfl,fun c hc=>by rw [CH.1 hc];exact g,hz⟩
def exS:Nat->List AV
 |0=>[]
 |1=>[⟨0,5,⟨10,2,7⟩⟩]
 |_=>[⟨0,5,⟨10,2,7⟩⟩,⟨0,6,⟨11,9,7⟩⟩]
theorem XN(g m:BE):BQ ((dX g m).take 0)=exS 0/\BQ ((dX g m).take 1)=exS 1/\BQ ((dX g m).take 2)=exS 2:=⟨rfl,by kernel_rfl,by kernel_rfl⟩
theorem wa(m B:BE):EY (dX m B):=fun i r g=>by
 obtain ⟨h0,G,_⟩:=XN m B
 match i,g with
 |0,g=>injection g with g;subst g;rw [h0];exact ⟨mK (p:=0) B0 B0 (by unfold Gd;decide) B0,by show 1<=3;decide⟩
 |1,g=>injection g with g;subst g;rw [G];exact ⟨mK (p:=1) B0 B0 (by unfold Gd;decide) B0,by show 1<=3;decide⟩
 |i+2,g=>simp [dX]at g
structure ue(l:List BF):Prop where
 b:Np l
 len:l.length=2
 e2:(Cj (BQ (l.take 2)) exQ).val=2
 e1:(Cj (BQ (l.take 1)) exQ).val=1
 two:∃r,l[1]?=some r/\(∃ch∈r.cs,Ct exQ ch=true)/\Su exQ r=true
theorem Ut(rs:List AV):(Cj rs exQ).rows=[]:=rfl
theorem AA3(g m:BE):ue (dX g m):=by
 obtain ⟨_,B,h2⟩:=XN g m;refine ⟨(wa g m).toB (by show 2<=20;decide),rfl,by rw [h2];decide,by rw [B];decide,_,rfl,⟨exD 6 11 9,.head _,by decide⟩,?_⟩;exact (by decide:[exD 6 11 9].any (Dt exQ)=true)
theorem XJ(hi:c.its=[])(g:c.PL=[]){tn:Int}(B:P<=a){b:Bool}(m:zA l P c d q tn a n b):b=true/\∃y:ItM,d.its=[y]/\y.q=q/\y.key=str (DI q)/\y.base=(a:Int)/\∀e∈d.PL,e.sz<=1+(n:Int):=by
 rcases m with⟨_,_,h⟩|⟨h1,_,h2,⟨_,x,hx,_⟩|⟨_,y,h3,h4,h5,_⟩⟩
 · exact absurd (WR B) h
 · rw [hi]at hx;cases hx
 · refine ⟨h1,y,by rw [h3,hi];rfl,h4,by unfold ItM.key;rw [h4],h5,fun e G=>?_⟩
   rcases h2 e G with h9|h9
   · rw [g]at h9;cases h9
   · exact h9
theorem aI(h:Row e v xs s)(hn:xs.length=n)(h0:0<n):∃g cap cur z,v=I6 g n cap/\s=[(g,.cells cur e z)]/\n<=cur.size/\∀i,i<n->cur[i]?=xs[i]?:=by
 subst hn;exact v7 h h0
theorem lK(h:Row e v xs s)(hn:xs.length=n):∃p cap,v= .slice p n cap:=by
 subst hn;obtain ⟨p,cap,h⟩:=h.form;exact ⟨p,cap,h⟩
variable{cs:List Chg}
theorem xB(g:Hz c d p cs q2 cap2 zs){y:ItM}(hi:c.its=[y])(B:Z8 cs y)(m:y.base<p):zs=[y.key]:=A68 (fun k=>by
 rw [g.z1,hi];constructor;· rintro ⟨x,hx,rfl,_⟩;rw [CH.1 hx]
 · rintro rfl;exact ⟨y,by simp,rfl,B,m⟩) g.z2
theorem AD6(g:Hz c d p cs q2 cap2 zs)(m:∀x∈c.its,p<=x.base):zs=[]:=ui.2 fun k B=>by
 obtain ⟨x,hx,_,_,h⟩:=(g.z1 k).1 B;have:=m x hx
 omega
theorem lw(J:Hz c d p cs q2 cap2 zs){y:ItM}(hi:c.its=[y])(W:p -64<=y.base)(X:1<=y.q.kd/\y.q.kd<=4):∃m,d.its=[m]/\m.q=y.q/\m.key=y.key/\m.base=y.base:=by
 obtain ⟨m,G,hc⟩:=J.i2 y (by rw [hi];simp) W fun _ _=>Yy X _ _;have K:=J.ok.its.keys
 have g:∀w∈d.its,w=m:=fun w O=>by
  obtain ⟨_,x,hx,B,_⟩:=J.i1 w O;rw [hi]at hx;rw [CH.1 hx]at B;exact Ha K O G ((Mw B).trans (Mw hc).symm)
 obtain ⟨_,_,e1,_,e2,_⟩:=IX hc;refine ⟨m,?_,e1,Mw hc,e2⟩;have I:=K
 match hE:d.its,G,I with
 |[w],_,_=>rw [g w (by rw [hE];simp)]
 |w::w2::L,_,I=>
  have U:=g w (by rw [hE];simp);have h2:=g w2 (by rw [hE];simp)
  rw [U,h2]at I;simp at I
theorem eG{g:Nat}{T:AM}{z:Nat×Nat}{cur:AN}{c:Chg}(B:(g,Obj.cells cur T z)∈M)(G:10<=cur.size)(m:cur.extract 0 10=c.BM3):CL M (I6 g [c].length 1) [c]:=⟨_,_,rfl,by show 1<=maxLen;decide,fun i x hx=>by
 match i,hx with
 |0,hx=>injection hx with hx;subst hx;exact ⟨g,0,cur,T,z,rfl,B,by omega,by simpa using m⟩
 |i+1,hx=>simp at hx⟩
theorem AA2(G I B:Nat):∃(l:List BF) (M:List A8),M=[(G,Obj.cells #[I4 0,I4 5,.bool false,I4 0,I4 0,I4 0,.bool true,I4 10,I4 2,I4 7] 73 (0,0))]++([(I,Obj.cells #[I4 0,I4 6,.bool false,I4 0,I4 0,I4 0,.bool true,I4 11,I4 9,I4 7] 73 (0,0))]++[(B,Obj.cells #[I4 1,I6 G 1 1,I4 2,I6 I 1 1] 55 (0,0))])/\ue l/\Dx M (I6 B l.length 2) l:=by
 refine ⟨dX (some ⟨G,0,none⟩) (some ⟨I,0,none⟩),_,V,AA3 _ _,⟨_,_,V,⟨by show 2<=maxLen;decide,D0 _⟩,fun i r m=>?_⟩⟩
 match i,m with
 |0,m=>injection m with m;subst m;exact ⟨eG (g:=G) (c:=exD 5 10 2) (.head _) B0 rfl,B,0,_,_,_,rfl,.tail _ (.tail _ (.head _)),eV rfl,rfl⟩
 |1,m=>injection m with m;subst m;exact ⟨eG (g:=I) (c:=exD 6 11 9) (.tail _ (.head _)) B0 rfl,B,0,_,_,_,rfl,.tail _ (.tail _ (.head _)),eV rfl,rfl⟩
 |i+2,m=>simp [dX]at m
set_option maxHeartbeats 4000000 in
theorem xK(Tg:AM)(zg:Nat×Nat)(Tp:AM)(zp:Nat×Nat):Au prog 4 #[] [[(0,.cells (Dn.map CW).toArray Tg zg)],[(3,.cells (Lib.pow10Tab.map fun z=>Value.int .u64 z).toArray Tp zp)]] (.bool true):=by
 have hml:=mL;refine Se func4 ntmps4 [] ?_;intro u R;refine A3<|AH Y<|A3<|Zv (BN (vs:=[(0,_),(1,_),(2,_)]) (cs:=#[_,_,_]) Y (Dc fL K1 A6 V))<|Zv (BN (vs:=[(1,I4 5),(4,.bool true),(5,.agg #[I4 10,I4 2,I4 7])]) (cs:=#[I4 0,I4 5,.bool false,I4 0,I4 0,I4 0,.bool true,I4 10,I4 2,I4 7]) Y (Aa (pl:=#[(0,1),(1,1),(2,1),(3,3),(6,1),(7,3)]) N1 CC (fun _=>by kernel_rfl) AD))<|Ze (Ah (vs:=[_]) (cs:=[_,_,_,_,_,_,_,_,_,_]) GO Cl N1 Y V rfl V rfl V)<|AF fun g1=>Zv (BN (vs:=[(0,_),(1,_)]) (cs:=#[_,_]) Y (Aa (pl:=#[(0,1),(1,1)]) N2 GS (fun _=>by kernel_rfl) V))<|Zv (BN (vs:=[(0,_),(1,_),(2,_)]) (cs:=#[_,_,_]) Y (Dc fL K1 A6 V))<|Zv (BN (vs:=[(1,I4 6),(4,.bool true),(5,.agg #[I4 11,I4 9,I4 7])]) (cs:=#[I4 0,I4 6,.bool false,I4 0,I4 0,I4 0,.bool true,I4 11,I4 9,I4 7]) Y (Aa (pl:=#[(0,1),(1,1),(2,1),(3,3),(6,1),(7,3)]) N1 CC (fun _=>by kernel_rfl) AD))<|Ze (Ah (vs:=[_]) (cs:=[_,_,_,_,_,_,_,_,_,_]) GO Cl N1 Y V rfl V rfl V)<|AF fun g2=>Zv (BN (vs:=[(0,_),(1,_)]) (cs:=#[_,_]) Y (Aa (pl:=#[(0,1),(1,1)]) N2 GS (fun _=>by kernel_rfl) V))<|Ze (Ah (vs:=[_,_]) (cs:=[_,_,_,_]) G2 E0 N2 Y V rfl V rfl V)<|AF fun g0=>CT Y<|Cc (s1:=[(g2,Obj.cells #[I4 0,I4 6,.bool false,I4 0,I4 0,I4 0,.bool true,I4 11,I4 9,I4 7] 73 (0,0))]) (s2:=[(g0,Obj.cells #[I4 1,I6 g1 1 1,I4 2,I6 g2 1 1] 55 (0,0))]) Wo Wo ?_;refine Cc (s1:=[(g1,Obj.cells #[I4 0,I4 5,.bool false,I4 0,I4 0,I4 0,.bool true,I4 10,I4 2,I4 7] 73 (0,0))]) (s2:=([(g2,Obj.cells #[I4 0,I4 6,.bool false,I4 0,I4 0,I4 0,.bool true,I4 11,I4 9,I4 7] 73 (0,0))]++[(g0,Obj.cells #[I4 1,I6 g1 1 1,I4 2,I6 g2 1 1] 55 (0,0))])) Wo Wo ?_;obtain ⟨l,M,hM,hx,pz⟩:=AA2 g1 g2 g0;rw [<-hM];have za:=hx.len
 rw [show(Value.slice (some ⟨g0,0,none⟩) 2 2:A2)=I6 g0 l.length 2 by rw [za]];obtain ⟨r2,K,wo,FT⟩:=hx.two;obtain ⟨X,gm,offm,curm,Tm,zm,qx,qw,hszm,Z⟩:=um pz K;injection qx with qx
 injection qx with hpm1 hpm2 _
 subst hpm1 hpm2;refine Zg<|Zv (BN (vs:=[(0,I4 3),(2,I4 1),(3,I4 10),(4,I4 19)]) (cs:=#[I4 3,I4 0,I4 1,I4 10,I4 19,I4 0,I4 0]) Y (Aa (pl:=#[(0,1),(1,1),(2,1),(3,1),(4,1),(5,1),(6,1)]) RC DB (fun _=>by kernel_rfl) AD))<|Ze (Al RC #[_,_,_,_,_,_,_])<|AF fun bq=>Xe (Xw D4 #[I4 3,I4 0,I4 1,I4 10,I4 19,I4 0,I4 0])<|Z0<|Zn [1,2] ?_;refine C6<|Zo Wh (A9 (cs:=#[_,_,_,_,_,_,_]) Fm D4 Y B0 (Az V))<|Xr [_] Y call21 Y V (OM exQ Uo Tp zp)<|Zm Y<|Zd Y V<|Zd Y V<|Za Y<|AH Y<|A3<|Ze (Ah (vs:=[_]) (cs:=[_]) DP A6 HT Y V rfl V rfl V)<|AF fun gs=>Zc [_,_,_] Y call9 Y V (uQ (sh:=[5]) (aJ gs (I4 5)) 1 10 B0 B0 B0 B0 B0) ?_;rintro _ _ ⟨_,⟨c0,rfl,P5,⟨O,l9,Ty⟩,Qd,zi,o9,W,rfl⟩,rfl⟩;have L0:Ip l 1 c0:=⟨P5,Qd,by omega,by rw [Ty];exact Sl l 1,fun x G=>by rw [O]at G;cases G⟩
 refine Zm Y<|Zd Y V<|Zd Y V<|Za Y<|B2 Y<|Zn [1,2,3,5,6] ?_;refine C6<|Ze (Ah (vs:=[_]) (cs:=[_]) DP A6 HT Y V rfl V rfl V)<|AF fun MK=>Xr [_,_,_] Y call9 Y V (AB6 (-1) 10 (I6 MK 1 1) B0)<|Zm Y<|Zd Y V<|Zd Y V<|Za Y<|AH Y<|B8 Y<|Zv (Bb Sx Y Y)<|Zm Y<|Ad (t:=55) Y V (fun k1=>by cases k1)<|fun k1=>Zf Y Y<|Yg (Cm (n:=0) Y Y)<|B9 Y Y<|Zm Y<|Af (t:=59) Y V (fun k2=>?_) (fun k2=>?_);·
  exact absurd V k2
 refine Zf Y Y<|Yg (Cm (n:=180) Y Y)<|B9 Y Y<|Z0<|Zn [1,2,3,5,62] ?_;refine Zx<|Ak Y (fun k3=>?_) (fun k3=>?_);·
  exact absurd V k3
 refine B3<|AK Y<|Zm Y<|Zo Wh (A9 (cs:=#[_,_,_,_,_,_,_]) Fm D4 Y B0 (Az V))<|Zc [_,_,_,_] Y call12 Y V (YZ pz hx.b.ok A0 1 A0 Uo (hx.b.scan 1 A0 exQ) 0 Tg zg) ?_;rintro _ _ ⟨_,⟨E1,pg1,cg1,sO,rfl,rfl⟩,rfl⟩;have j5:1+((0:Nat):Int)<=c0.z.fr:=by
  have h9:=Y5 L0.ok.tookb (B:=0) (by rw [l9];simp);rw [O,W]at h9;simp at h9⊢;omega
 refine Zc [_,_] Y call11 Y rfl (qu hx.b L0 Uo (k:=0) (by rw [o9];decide) B0 (a:=1) A0 sO (by have:=zi;omega) (by rw [O];decide) (n:=0) (fun b hb=>by rw [Ut];decide) j5 Tp zp) ?_;rintro _ _ ⟨_,⟨b1,c1,rfl,L1,cu,hnn1,MP,rfl⟩,rfl⟩;obtain ⟨rfl,y1,ic,j3,qo,gq,hsz1⟩:=XJ O l9 A0 MP;rw [<-cu.cp];have zb:c1.ns=1:=cu.ns.trans o9
 have qa:c1.z.cap=10:=cu.cap.trans W;have hnx1:c1.next<=11:=by omega
 refine AH Y<|AK Y<|Zm Y ?_;have af:=SS L1.ok (x:=y1) (by rw [ic];simp) (by rw [gq,L1.pos];omega)
 rw [qo]at af;refine Zc [_,_] Y call18 Y V (af) ?_;rintro _ _ ⟨_,⟨z1,l1,s1,Gl,hpc1,hzo1,rfl,rfl⟩,rfl⟩;obtain ⟨a1,e11,e12,e13,e14,MC⟩:=L1.at hx.b (x:=y1) (by rw [ic];simp);obtain rfl:a1=1:=by omega
 have T9:z1.a.res.val=1:=by rw [Gl];show y1.res.val=1;rw [(MC A0).1,j3];exact hx.e1
 have Rl:z1.a.until_=1:=by rw [Gl];show c1.pos=1;rw [L1.pos];rfl
 refine Zm Y<|Zd Y V<|Zd Y V<|Ze (Al NO #[_,_,_,_,_,_,_,_,_,_,_,_,_,_,_])<|AF fun ba=>Xe (Xw KB z1.BM6)<|B2 Y<|Zn [1,2,3,5,9,10,11] ?_;refine Zx<|AK Y<|Zm Y<|BX (AZ (j:=1) G2 E0 Y Y A0)<|Bu (HY Wo (qw)) (A9 (cs:=#[_,_]) HN E0 Y A0 Z) V rfl<|Zc [_,_] Y call15 Y V (jL hx.b L1 K X) ?_;rintro _ _ ⟨_,⟨c2,q22,Mx,zs2,tv2,sT2,rfl,L2,U,pg,rfl⟩,rfl⟩;have m:r2.p=c1.pos+1:=(L1.next hx.b K).2
 rw [L1.pos]at m;have Hf:zs2=[y1.key]:=xB U ic (by unfold Z8;rw [j3];exact wo) (by rw [gq,m];omega)
 rw [Hf,qo]at pg;obtain ⟨gt,capt,sj,zt,rfl,rfl,hszt,Pn⟩:=aI pg (n:=1) rfl B0;have vw:sj[0]?=some (.string (str (DI exQ))):=Pn 0 B0
 rw [<-U.cp];obtain ⟨y2,wz,qz,x9,gy⟩:=lw U ic (by rw [gq];omega) (by rw [j3];decide);rw [j3]at qz;rw [qo]at x9;rw [gq]at gy;have zf:c2.ns=1:=U.ns.trans zb
 have qb:c2.z.cap=10:=U.zcap.trans qa;have hnx2:c2.next<=12:=by rw [U.next];omega
 refine Zm Y<|Zd Y V<|Zd Y V<|Za Y<|AH Y<|AK Y<|Zm Y ?_;have ax:=SS L2.ok (x:=y2) (by rw [wz];simp) (by rw [gy,L2.pos];omega)
 rw [x9]at ax;refine Zc [_,_] Y call18 Y V (ax) ?_;rintro _ _ ⟨_,⟨z2,l2,s2,r9,zl,hzo2,rfl,rfl⟩,rfl⟩;obtain ⟨a2,e21,e22,e23,ME,e25⟩:=L2.at hx.b (x:=y2) (by rw [wz];simp);obtain rfl:a2=1:=by omega
 obtain ⟨e241,sw,l8,_⟩:=ME A0;have Ta:z2.a.res.val=2:=by rw [r9];show y2.res.val=2;rw [sw,qz];exact hx.e2
 have Qe:z2.a.since=2:=by
  rw [r9];show y2.since=2
  rw [qz]at l8;obtain ⟨⟨a1,a2⟩,_,a4⟩:=l8;rcases (by omega:y2.since=2\/y2.since<=1)with h9|h9
  · exact h9
  · have ht:=a4 1 r2 A0 B0 K
    rw [FT]at ht;cases ht
 have Ps:z2.a.recs.length=1:=by
  rw [r9];show l2.length=1
  have h9:=congrArg List.length zl;rw [Bk,Bk,PD (by rw [L2.pos,gy];omega),L2.pos,gy]at h9;omega
 refine Zm Y<|Zd Y V<|Zd Y V<|Ze (Al NO #[_,_,_,_,_,_,_,_,_,_,_,_,_,_,_])<|AF fun bb=>Xe (Xw KB z2.BM6)<|B2 Y<|Zn [1,2,3,5,9,10,11,12,13,14,15] ?_;refine Zx<|AK Y<|Zm Y<|BX (AZ (j:=1) G2 E0 Y Y A0)<|Bu (HY Wo (qw)) (A9 (cs:=#[_,_]) HN E0 Y A0 Z) rfl rfl<|Xr [_,_] Y call15 Y rfl (bQ L2.ok.tookb X (L1.next hx.b K).1 (by rw [m,L2.pos];omega))<|Zm Y<|Zd Y rfl<|Zd Y rfl<|Za Y<|AH Y<|AK Y<|Zc [_,_] Y call22 Y rfl (xi L2.ok 1 B0) ?_;rintro _ _ ⟨_,⟨rfl,c3,P6,vo,⟨g,o8,Y2⟩,zk,ek,d9,J,hcm3,rfl⟩,rfl⟩;rw [<-vo];have L3:Ip l 1 c3:=⟨P6,zk,by omega,by rw [Y2];exact Sl l 1,fun x G=>by rw [g]at G;cases G⟩
 rw [zf]at d9;rw [qb]at J;replace ek:c3.next<=13:=by rw [ek];omega
 refine A4<|AK Y<|Zc [_] Y call17 Y V (u7 L3.ok.tookb) ?_;rintro _ _ ⟨_,⟨zs3,sk3,p9,_,zu,rfl⟩,rfl⟩;rw [g]at p9;have HZ:zs3=[]:=p9.eq_nil
 subst HZ;obtain ⟨pk3,ck3,rfl⟩:=lK zu (n:=0) rfl;refine Zv (AR DO Y)<|Zv (CJ (n:=0) Y Y)<|Zm Y<|Af (t:=102) Y V (fun k4=>?_) (fun k4=>?_);·
  refine Zf Y Y<|Xr [_] Y call23 Y V (zU c3) ?_;rw [zk];refine Yg (CJ (n:=1) Y Y)<|C1 Y Y<|B2 Y<|Zn [1,2,3,5,9,10,11,12,13,14,15,17,18] ?_;refine Zx<|AK Y<|Zm Y<|Zo Wh (A9 (cs:=#[_,_,_,_,_,_,_]) Fm D4 Y B0 (Az V))<|Zc [_,_,_,_] Y call12 Y V (YZ pz hx.b.ok A0 2 A0 Uo (hx.b.scan 2 A0 exQ) 0 Tg zg) ?_;rintro _ _ ⟨_,⟨E2,pg2,cg2,sQ,rfl,rfl⟩,rfl⟩;have kv:1+((0:Nat):Int)<=c3.z.fr:=by
   have h9:=Y5 L3.ok.tookb (B:=0) (by rw [o8];simp);rw [g,J]at h9;simp at h9⊢;omega
  refine Zc [_,_] Y call11 Y rfl (qu hx.b L3 Uo (k:=0) (by rw [d9];decide) B0 (a:=2) A0 sQ (by have:=ek;omega) (by rw [g];decide) (n:=0) (fun b hb=>by rw [Ut];decide) kv Tp zp) ?_;rintro _ _ ⟨_,⟨b4,c4,rfl,L4,cO,hnn4,MS,rfl⟩,rfl⟩;obtain ⟨rfl,y4,qj,zn,y9,gQ,zy⟩:=XJ g o8 A0 MS;rw [<-cO.cp];have zh:c4.ns=1:=cO.ns.trans d9
  have qh:c4.z.cap=10:=cO.cap.trans J;have hnx4:c4.next<=14:=by omega
  refine AH Y<|AK Y<|Zm Y ?_;have vz:=qA L4.ok (x:=y4) (by rw [qj];simp) (by rw [gQ,L4.pos];omega)
  rw [y9]at vz;refine Xr [_,_] Y call18 Y V (vz)<|Zm Y<|Zd Y V<|Zd Y V<|Ze (Al NO #[_,_,_,_,_,_,_,_,_,_,_,_,_,_,_])<|AF fun bc=>Xe (Xw KB #[I4 0,I4 0,I4 0,I4 0,I4 0,I4 0,I4 0,.slice none 0 0,I4 0,.bool false,I4 0,I4 0,I4 0,.slice none 0 0,.slice none 0 0])<|B2 Y<|Zn [1,3,5,9,10,11,12,13,14,15,17,18,19,21] ?_;refine Zx<|AK Y<|Zm Y<|BX (AZ (j:=1) G2 E0 Y Y A0)<|Bu (HY Wo (qw)) (A9 (cs:=#[_,_]) HN E0 Y A0 Z) V rfl<|Zc [_,_] Y call15 Y V (jL hx.b L4 K X) ?_;rintro _ _ ⟨_,⟨c5,q52,MB,zs5,tv5,sT5,rfl,L5,I,pq,rfl⟩,rfl⟩;have m:r2.p=c4.pos+1:=(L4.next hx.b K).2
  rw [L4.pos]at m;have LD:zs5=[]:=AD6 I fun x G=>by rw [qj]at G;rw [CH.1 G,gQ];omega
  rw [LD]at pq;obtain ⟨pk5,ck5,rfl⟩:=lK pq (n:=0) rfl;rw [<-I.cp];obtain ⟨y5,ql,zq,yt,q9⟩:=lw I qj (by rw [gQ];omega) (by rw [zn];decide);rw [zn]at zq;rw [y9]at yt;rw [gQ]at q9;have p8:c5.ns=1:=I.ns.trans zh
  have P7:c5.z.cap=10:=I.zcap.trans qh;have hnx5:c5.next<=15:=by rw [I.next];omega
  refine Zm Y<|Zd Y V<|Zd Y V<|Za Y<|AH Y<|AK Y<|Zm Y ?_;have bn:=SS L5.ok (x:=y5) (by rw [ql];simp) (by rw [q9,L5.pos];omega)
  rw [yt]at bn;refine Zc [_,_] Y call18 Y V (bn) ?_;rintro _ _ ⟨_,⟨z5,l5,s5,Gw,hpc5,hzo5,rfl,rfl⟩,rfl⟩;obtain ⟨a5,e51,e52,e53,e54,MJ⟩:=L5.at hx.b (x:=y5) (by rw [ql];simp);obtain rfl:a5=2:=by omega
  have Tn:z5.a.res.val=2:=by rw [Gw];show y5.res.val=2;rw [(MJ A0).1,zq];exact hx.e2
  have ve:z5.a.base=2:=by rw [Gw];show y5.base=2;rw [q9];rfl
  refine Zm Y<|Zd Y V<|Zd Y V<|Ze (Al NO #[_,_,_,_,_,_,_,_,_,_,_,_,_,_,_])<|AF fun bd=>Xe (Xw KB z5.BM6)<|B2 Y<|Zn [3,5,9,10,11,12,13,14,15,17,18,19,21,22,24,25] ?_;refine Zx<|AK Y<|Zm Y<|Ad (t:=133) Y V (fun g1=>?_) (fun g1=>?_);·
   refine Zf Y Y<|C1 Y Y<|Zm Y<|Ad (t:=136) Y V (fun g2=>?_) (fun g2=>?_);·
    refine Yf 7 HH V rfl C5 Y<|Yg (Ar (off:=1) FA V rfl A6 Y)<|Yl AE Y<|Yg (CO Y Y)<|C1 Y Y<|Zm Y<|Af (t:=142) Y V (fun g3=>?_) (fun g3=>?_);·
     refine Yf 11 HH V rfl A6 Y<|Yl AE Y<|Yg (CO Y Y)<|C1 Y Y<|Zm Y<|Af (t:=147) Y V (fun g4=>?_) (fun g4=>?_);·
      refine Zf Y Y<|Yg (CJ (n:=0) Y Y)<|C1 Y Y<|Zm Y<|Af (t:=151) Y V (fun g5=>?_) (fun g5=>?_);·
       refine Zf Y Y<|Yg (AR DO Y)<|Yg (CJ (n:=1) Y Y)<|C1 Y Y<|Zm Y<|Af (t:=156) Y V (fun g6=>?_) (fun g6=>?_);·
        refine Zf Y Y<|Gy Y (Bd (j:=0) DO FG Y Y Q2) rfl rfl ?_;refine Yl H3 Y (hv:=by exact vw)<|Zf Y Y<|Yg (NU Y Y)<|C1 Y Y<|B2 Y<|Zn [5,14,15,17,18,19,21,22,24,25,26] ?_;refine Zx<|AK Y<|Zm Y<|Ad (t:=164) Y V (fun g8=>?_) (fun g8=>?_);·
         refine Yf 7 HH V rfl C5 Y<|Yg (Ar (off:=1) FA V rfl A6 Y)<|Yl AE Y<|Yg (CO Y Y)<|C1 Y Y<|Zm Y<|Af (t:=170) Y V (fun g9=>?_) (fun g9=>?_);·
          refine Yf 10 HH V rfl A6 Y<|Yl AE Y<|Yg (CO Y Y)<|C1 Y Y<|Zm Y<|Af (t:=175) Y V (fun sJ=>?_) (fun sJ=>?_);·
           refine Yf 14 HH V rfl Lz Y<|Yl W6 Y<|Yg (AR G2 Y)<|Yg (CJ (n:=1) Y Y)<|C1 Y Y<|Zm Y<|Af (t:=181) Y V (fun sM=>?_) (fun sM=>?_);·
            refine Zf Y Y<|Yg (CJ (n:=180) Y Y)<|C1 Y Y<|B2 Y<|Zn [5,18,19,21,22,24,25,26,27] ?_;refine Zx<|AK Y<|Zm Y<|Af (t:=186) Y V (fun m1=>?_) (fun m1=>?_);·
             refine Zf Y Y<|C1 Y Y<|Zm Y<|Af (t:=189) Y V (fun m2=>?_) (fun m2=>?_);·
              refine Zf Y Y<|C1 Y Y<|Zm Y<|Af (t:=192) Y V (fun m3=>?_) (fun m3=>?_);·
               refine Zf Y Y<|C1 Y Y<|Zm Y<|Ad (t:=195) Y V (fun m4=>?_) (fun m4=>?_);·
                refine Zf Y Y<|Yg (Bo Y)<|C1 Y Y<|Zm Y<|Ad (t:=199) Y V (fun m5=>?_) (fun m5=>?_);·
                 refine Zf Y Y<|Yg (AR DO Y)<|Yg (CJ (n:=0) Y Y)<|C1 Y Y<|Zm Y<|Af (t:=204) Y V (fun m6=>?_) (fun m6=>?_);·
                  refine Zf Y Y<|C1 Y Y<|Zm Y<|Ad (t:=207) Y V (fun m7=>?_) (fun m7=>?_);·
                   refine Yf 7 HH V rfl C5 Y<|Yg (Ar (off:=1) FA V rfl A6 Y)<|Yl AE Y<|Yg (CO Y Y)<|C1 Y Y<|Zm Y<|Af (t:=213) Y V (fun m8=>?_) (fun m8=>?_);·
                    refine Yf 12 HH V rfl A6 Y<|Yl AE Y<|Yg (CO Y Y)<|C1 Y Y<|Zm Y<|Af (t:=218) Y V (fun m9=>?_) (fun m9=>?_);·
                     refine Zf Y Y<|Xr [_,_] Y call24 Y rfl (yd (k:=0) L5.ok.tookb (by rw [p8];decide)) ?_;rw [AF2 L5.ok.tookb p8 ql (fun e he=>zy e (I.PL e he))];refine Yg (CJ (n:=1) Y Y)<|C1 Y Y<|B2 Y<|Zn [0] ?_;refine Zx<|AL<|AO V results4 Y (by exact ⟨V,V⟩)
                    exact absurd ve m9
                   exact absurd Tn m8
                  cases m7
                 exact absurd V m6
                cases m5
               cases m4
              exact absurd V m3
             exact absurd V m2
            exact absurd V m1
           exact absurd Ps sM
          exact absurd Qe sJ
         exact absurd Ta g9
        cases g8
       exact absurd V g6
      exact absurd V g5
     exact absurd Rl g4
    exact absurd T9 g3
   cases g2
  cases g1
 exact absurd V k4
def NB(z:Int):Nat:=if z<0 then(-(z+1)).toNat else z.toNat
theorem mr{z:Int}(h:z<0):(-(z+1)).toNat=NB z:=(Ax h).symm
theorem mo{z:Int}(h:¬z<0):z.toNat=NB z:=(As h).symm
def mm(had:Bool)(m:Nat):Bool:=!had||decide (0<m%4)
def zS(m:Nat):V3:=⟨((m/4%10:Nat):Int),((1+m/40%9:Nat):Int),((m/400%40:Nat):Int) -20⟩
def mW(gr:AV×Bool)(n m:Nat):Chg:=⟨((n%3:Nat):Int),((1+n/3%9:Nat):Int),gr.2,gr.1.v,mm gr.2 m,if mm gr.2 m then zS m else V3.zero⟩
def Rj(rs:List AV)(n m:Nat):Chg:=mW (G8 rs ((n%3:Nat):Int) ((1+n/3%9:Nat):Int)) n m
def gK(c y:Chg):Bool:=decide (y.t=c.t/\y.k=c.k)
def KS(cs:List Chg)(c:Chg)(k n:Nat):Prop:=cs.any (gK c)=true\/(c.had=true/\c.has=true/\c.o=c.n)\/(0<k/\n%5=0)
instance(cs:List Chg)(c:Chg)(k n:Nat):Decidable (KS cs c k n):=inferInstanceAs(Decidable (_\/_))
def Ot(c y:Chg):Prop:=c.t<y.t\/y.t=c.t/\c.k<y.k
instance(c y:Chg):Decidable (Ot c y):=inferInstanceAs(Decidable (_\/_))
def Ql(cs:List Chg)(c:Chg):Nat->Nat
 |0=>0
 |j+1=>match cs[j]?with
  |some y=>if Ot c y then Ql cs c j else j+1
  |none=>j+1
variable{j:Nat}
theorem A43{c:Chg}(h0:0<j)(hy:cs[j -1]?=some y)(h:Ot c y):Ql cs c j=Ql cs c (j -1):=by
 obtain ⟨k,rfl⟩:∃k,j=k+1:=⟨j -1,by omega⟩;rw [S8]at hy⊢;rw [Ql,hy];exact Ax h
theorem aZ{c:Chg}(h0:0<j)(hy:cs[j -1]?=some y)(h:¬Ot c y):Ql cs c j=j:=by
 obtain ⟨k,rfl⟩:∃k,j=k+1:=⟨j -1,by omega⟩;rw [S8]at hy;rw [Ql,hy];exact As h
theorem A42{c:Chg}(h0:¬0<j):Ql cs c j=j:=by
 obtain rfl:j=0:=by omega
 rfl
noncomputable def W9(rs:List AV)(z:List Int)(k:Nat)(cs:List Chg):List Chg:=
 if KS cs (Rj rs (NB (z.getD (2*k) 0)) (NB (z.getD (2*k+1) 0))) k (NB (z.getD (2*k) 0))then cs
 else cs.take (Ql cs (Rj rs (NB (z.getD (2*k) 0)) (NB (z.getD (2*k+1) 0))) cs.length)++[Rj rs (NB (z.getD (2*k) 0)) (NB (z.getD (2*k+1) 0))]++cs.drop (Ql cs (Rj rs (NB (z.getD (2*k) 0)) (NB (z.getD (2*k+1) 0))) cs.length)
noncomputable def GX(rs:List AV)(z:List Int):Nat->List Chg
 |0=>[]
 |k+1=>W9 rs z k (GX rs z k)
variable{z:List Int}
theorem Sb{n:Int}(h:z[i]?=some n):z.getD i 0=n:=by rw [OR,h];rfl
theorem R9{m:Nat}{B G:Int}{c:Chg}(g:cs=GX rs z k)(I:z[2*k]?=some B)(J:z[2*k+1]?=some G)(hn:n=NB B)(K:m=NB G)(hc:c=Rj rs n m)(h:KS cs c k n):cs=GX rs z (k+1):=by
 subst hn K hc;show _=W9 rs z k (GX rs z k)
 unfold W9;rw [Sb I,Sb J,<-g,Ax h]
theorem AC0{m:Nat}{B G:Int}{c:Chg}(g:cs=GX rs z k)(I:z[2*k]?=some B)(J:z[2*k+1]?=some G)(hn:n=NB B)(O:m=NB G)(hc:c=Rj rs n m)(h:¬KS cs c k n)(K:Ql cs c cs.length=j):cs.take j++[c]++cs.drop j=GX rs z (k+1):=by
 subst hn O hc K;show _=W9 rs z k (GX rs z k)
 unfold W9;rw [Sb I,Sb J,<-g,As h]
def aH(L:List (List Chg)):List AV:=L.foldl DT []
theorem aG(l:List BF):aH (l.map BF.cs)=BQ l:=by unfold aH BQ;rw [tW]
noncomputable instance(rs:List AV)(p q:Int)(cs:List Chg):Decidable (Ky rs p q cs):=Classical.propDecidable _
noncomputable def Na(L:List (List Chg))(z:List Int):List (List Chg):=
 if Ky (aH L) (L.length:Int) ((L.length:Int)+1) (GX (aH L) z 3)then L++[GX (aH L) z 3]else L
noncomputable def UM(xs:List (List Int)):List (List Chg):=xs.foldl Na []
theorem X5{xs:List (List Int)}(hz:xs[i]?=some z):UM (xs.take (i+1))=Na (UM (xs.take i)) z:=by
 unfold UM;rw [S1,hz,X2];rfl
theorem vZ{xs:List (List Int)}{g:List BF}(hz:xs[i]?=some z)(m:g.map BF.cs=UM (xs.take i))(hc:r.cs=GX (BQ g) z 3)(h:Ky (BQ g) (g.length:Int) ((g.length:Int)+1) r.cs):(g++[r]).map BF.cs=UM (xs.take (i+1)):=by
 rw [X5 hz,<-m];unfold Na;rw [aG,Bk,<-hc,Ax h,CN];rfl
theorem xh{xs:List (List Int)}{g:List BF}(hz:xs[i]?=some z)(m:g.map BF.cs=UM (xs.take i))(hc:cs=GX (BQ g) z 3)(h:¬Ky (BQ g) (g.length:Int) ((g.length:Int)+1) cs):g.map BF.cs=UM (xs.take (i+1)):=by
 rw [X5 hz,<-m];unfold Na;rw [aG,Bk,<-hc,As h]
theorem yC{p:Chg->Bool}(hx:cs[i]?=some x):(cs.take (i+1)).any p=((cs.take i).any p||p x):=by
 rw [S1,hx,tM];simp
theorem wu{p:Chg->Bool}{b g:Bool}(hx:cs[i]?=some x)(m:b=(cs.take i).any p)(h:g=(b||p x)):g=(cs.take (i+1)).any p:=by
 rw [yC hx,<-m,h]
end Go.Proofs.YtlkdhannldcfbabGreatDoor
