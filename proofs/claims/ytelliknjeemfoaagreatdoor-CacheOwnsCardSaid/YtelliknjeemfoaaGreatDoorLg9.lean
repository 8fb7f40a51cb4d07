/- The program's layer 3: ValidChange. -/
import Derived.Test.YtelliknjeemfoaaGreatDoorLg4
set_option linter.unusedVariables false
set_option linter.unusedSimpArgs false
namespace Go.Proofs.YtelliknjeemfoaaGreatDoor
open Go.Proofs.Tryz
open Go Go.RowKit Gw
set_option maxRecDepth 100000
attribute [local irreducible] Gw.At Gw.Nx Gw.Ops
def zw(c:Chg):Bool:=if c.had then decide c.before.ok else decide (c.o=V3.zero)
def zx(c:Chg):Bool:=if c.has then decide c.after.ok else decide (c.n=V3.zero)
theorem Ro(c:Chg):Az prog 149 #[.agg c.A87,.bool c.had,.agg #[I0 c.o.a,I0 c.o.b,I0 c.o.c]] [] (.bool (zw c)):=Y8 c c.had c.o
theorem Rp(c:Chg):Az prog 149 #[.agg c.A87,.bool c.has,.agg #[I0 c.n.a,I0 c.n.b,I0 c.n.c]] [] (.bool (zx c)):=Y8 c c.has c.n
variable{c:Chg}
theorem Kk(g:c.had≠c.has\/(c.had=true/\c.o≠c.n)):decide c.ok=(zw c&&zx c):=by
 unfold zw zx;cases h1:c.had<;>cases h2:c.has<;>simp_all [Chg.ok]
 all_goals (by_cases m:c.before.ok<;>by_cases B:c.after.ok<;>by_cases G:c.o=V3.zero<;>by_cases I:c.n=V3.zero<;>simp_all)
theorem uu(h:c.had=c.has)(h2:c.had=true->c.o=c.n):decide c.ok=false:=by
 cases h1:c.had<;>simp_all [Chg.ok]
 all_goals (rw [<-h]at*;simp_all)
set_option maxHeartbeats 4000000 in
theorem Uu(c:Chg):Az prog 95 #[.agg c.A87] [] (.bool (decide c.ok)):=by
 refine Se func95 ntmps95 [0] ?_;intro u R;refine A3<|Ze (Bx #[_,_,_,_,_,_,_,_,_,_])<|AF fun K=>AH Y<|A3<|Zh 2 CC V rfl FA Y<|Zl GW Y<|Zh 6 CC V rfl FA Y<|Zl GW Y<|Zv (J7 Mn Y Y)<|Zm Y<|Ae (t:=9) Y V (fun g=>?_) (fun g=>?_);·
  refine AG<|AG<|AG<|AG<|C5<|BT Y Y<|B1 Y<|Zn [1,3] ?_;refine Zx<|AN Y<|Zm Y<|DY Y Wh (Pa #[_,_,_,_,_,_,_,_,_,_] HG Cd Y) V rfl<|Yf 2 CC V rfl FA Y<|Yl GW Y<|Yf 3 CC V rfl E0 Y<|DY Y Wh (Pa #[_,_,_] HS E0 Y) V rfl<|Xr [_,_,_] Y call149 Y V (Ro c)<|BT Y Y<|Zm Y<|Ab (t:=29) Y V (fun G=>?_) (fun G=>?_);·
   refine DY Y Wh (Pa #[_,_,_,_,_,_,_,_,_,_] HG Cd Y) V rfl<|Yf 6 CC V rfl FA Y<|Yl GW Y<|Yf 7 CC V rfl E0 Y<|DY Y Wh (Pa #[_,_,_] HS E0 Y) V rfl<|Xr [_,_,_] Y call149 Y V (Rp c)<|BT Y Y<|B1 Y<|Zn [2] ?_;refine Zx<|AJ<|AX rfl fX Y (by exact ⟨by rw [Kk (.inl g),G,Wa],rfl⟩)
  refine AG<|AG<|AG<|BW Y Y<|B1 Y<|Zn [2] ?_;refine Zx<|AJ<|AX rfl fX Y (by exact ⟨by rw [Kk (.inl g),G,Bool.false_and],rfl⟩)
 refine Yf 2 CC V rfl FA Y<|Yl GW Y<|Zf Y Y<|Ab (t:=12) Y V (fun m=>?_) (fun m=>?_);·
  refine Yf 3 CC V rfl E0 Y<|DY Y Wh (Pa #[_,_,_] HS E0 Y) V rfl<|Yf 7 CC V rfl E0 Y<|DY Y Wh (Pa #[_,_,_] HS E0 Y) V rfl<|Yg (KW AD K0 D3 AE A6 Y Y) ?_;refine Yg (AL Y Y)<|BW Y Y<|B1 Y<|Zn [1,3] ?_;refine Zx<|AN Y<|Zm Y<|Ae (t:=21) Y V (fun B=>?_) (fun B=>?_);·
   refine DY Y Wh (Pa #[_,_,_,_,_,_,_,_,_,_] HG Cd Y) V rfl<|Yf 2 CC V rfl FA Y<|Yl GW Y<|Yf 3 CC V rfl E0 Y<|DY Y Wh (Pa #[_,_,_] HS E0 Y) V rfl<|Xr [_,_,_] Y call149 Y V (Ro c)<|BT Y Y<|Zm Y<|Ab (t:=29) Y V (fun I=>?_) (fun I=>?_);·
    refine DY Y Wh (Pa #[_,_,_,_,_,_,_,_,_,_] HG Cd Y) V rfl<|Yf 6 CC V rfl FA Y<|Yl GW Y<|Yf 7 CC V rfl E0 Y<|DY Y Wh (Pa #[_,_,_] HS E0 Y) V rfl<|Xr [_,_,_] Y call149 Y V (Rp c)<|BT Y Y<|B1 Y<|Zn [2] ?_;refine Zx<|AJ<|AX rfl fX Y (by exact ⟨by rw [Kk (.inr ⟨m,B⟩),I,Wa],rfl⟩)
   refine AG<|AG<|AG<|BW Y Y<|B1 Y<|Zn [2] ?_;refine Zx<|AJ<|AX rfl fX Y (by exact ⟨by rw [Kk (.inr ⟨m,B⟩),I,Bool.false_and],rfl⟩)
  refine AG<|AG<|AG<|BW Y Y<|Zm Y<|AG<|AG<|AG<|BW Y Y<|B1 Y<|Zn [2] ?_;refine Zx<|AJ<|AX rfl fX Y (by exact ⟨by rw [uu (Kf.1 g) (fun _=>Kf.1 B)],rfl⟩)
 refine AG<|AG<|C5<|Yg (AO Y Y)<|BW Y Y<|B1 Y<|Zn [1,3] ?_;refine Zx<|AN Y<|Zm Y<|AG<|AG<|AG<|BW Y Y<|Zm Y<|AG<|AG<|AG<|BW Y Y<|B1 Y<|Zn [2] ?_;refine Zx<|AJ<|AX rfl fX Y (by exact ⟨by rw [uu (Kf.1 g) (fun J=>by rw [m]at J;cases J)],rfl⟩)
theorem yS(h:c.ok):0<=c.t:=by
 obtain ⟨m,h2,_,_⟩:=h;have G:c.had=true->c.before.ok:=fun g=>cJ fun hn=>h2 (.inl ⟨g,hn⟩)
 have B:c.has=true->c.after.ok:=fun g=>cJ fun hn=>h2 (.inr ⟨g,hn⟩);cases e1:c.had with
 |true=>have:=(G e1).2.1.1;rw [PD e1]at this;exact this
 |false=>
  cases e2:c.has with
  |true=>have:=(B e2).2.1.1;rw [Kq e2]at this;exact this
  |false=>exact absurd (.inl ⟨by simp [e1],by simp [e2]⟩) m
variable{cs:List Chg}{i:Nat}{x:Chg}
theorem XE{p:Int}{y:Chg}(m:i=0/\y.t=-1\/0<i/\cs[i -1]?=some y)(h:Dq p cs)(hx:cs[i]?=some x):y.lt x:=by
 rcases m with⟨h0,g⟩|⟨h0,g⟩
 · left;have:=yS (h.all i x hx);omega
 · exact h.ord (i -1) y x g (by rw [show i -1+1=i by omega];exact hx)
theorem xY{y:Chg}(m:i=0/\y.t=-1\/0<i/\cs[i -1]?=some y)(h:y.lt x):i=0\/∃y,cs[i -1]?=some y/\y.lt x:=by
 rcases m with⟨h0,g⟩|⟨h0,g⟩
 · exact .inl h0
 · exact .inr ⟨y,g,h⟩
theorem M7(p:Int)(q:B8)(cap:Nat)(cs:List Chg)(M:List A8)(hO:CE M (.slice q cs.length cap) cs):Az prog 45 #[.agg #[I0 p,.slice q cs.length cap]] [M] (.bool (decide (Dq p cs))):=by
 have ax:=mL;obtain ⟨p9,af,e9,bn,hg⟩:=hO;injection e9 with e91 e92 e93
 subst e91 e93;refine Se func45 ntmps45 [0] ?_;intro u R;refine A3<|Ze (Bx #[_,_])<|AF fun b1=>D2 Y<|A3<|Zh 0 GF V rfl A6 Y<|Zl AE Y<|Ze (Ah (vs:=[_]) (cs:=[_]) DS A6 HX Y V rfl V rfl V)<|AF fun b2=>Xr [_,_,_] Y call94 Y V (KT _ 0 1 _ _ _ _ _ p V)<|Zv (Cz Y)<|Zm Y<|Ae (t:=11) Y V (fun hp=>?_) (fun hp=>?_);·
  refine AG<|AG<|AG<|BT Y Y<|Z0<|Zn [1,18] ?_;refine Zx<|Cg Y<|A3<|Ax Y<|Zt<|AX rfl fY Y (by exact ⟨by rw [F0 (fun h9:Dq p cs=>by have G:=h9.pos;have I:=h9.len;exact hp G)],rfl⟩)
 refine Yf 1 GF V rfl KB Y<|Yl LL Y<|Yg (AR GO Y)<|Ze (Ah (vs:=[_]) (cs:=[_]) DS A6 HX Y V rfl V rfl V)<|AF fun b3=>Xr [_,_,_] Y call94 Y V (KT _ 0 1 _ _ _ _ _ (cs.length:Int) V)<|Yg (Cz Y)<|BW Y Y<|Z0<|Zn [1,18] ?_;refine Zx<|Ap Y (fun hl=>?_) (fun hl=>?_);·
  refine A3<|Ax Y<|Zt<|AX rfl fY Y (by exact ⟨by rw [F0 (fun h9:Dq p cs=>by have G:=h9.pos;have I:=h9.len;(apply hl;omega))],rfl⟩)
 refine AC<|CD<|Zv (BM (vs:=[(0,_)]) (cs:=#[_,_,_,_,_,_,_,_,_,_]) Y (Aa (pl:=#[(0,1),(1,1),(2,1),(3,3),(6,1),(7,3)]) OK CC (fun _=>by kernel_rfl) V))<|Ze (Al OK #[_,_,_,_,_,_,_,_,_,_])<|AF fun lb=>Xe (BF Cd Y Y (by(simp [Value.oneCell',Value.cells];done)) Wu B2 Fm Wn (by exact BA _))<|A5<|Zq<|A3<|Zh 1 GF rfl rfl KB Y<|Zl LL Y<|Zv (AR GO Y)<|Zm Y<|A5<|AP<|Zb [23,3,21,22] ?_;refine Ay (e0:=[(23,_)]) (fun m e H=>∃(i:Nat) (y:Chg),m=cs.length -i/\(i<=cs.length/\(∀(j:Nat) (c:Chg),j<i->cs[j]?=some c->c.ok)/\(∀(j:Nat) (b c:Chg),j+1<i->cs[j]?=some b->cs[j+1]?=some c->b.lt c)/\(i=0/\y.t=-1\/0<i/\cs[i -1]?=some y))/\e=[(23,I0 (i:Int))]/\H=[[(lb,.cells y.A87 59 (0,0))]]) (by exact ⟨0,⟨-1,0,false,V3.zero,false,V3.zero⟩,V,⟨by omega,by intro j c hj;omega,by intro j b c hj;omega,.inl ⟨V,V⟩⟩,V,V⟩) Wp ?_;rintro _ _ _ ⟨i,y,rfl,⟨hi,J,K,B⟩,rfl,rfl⟩;refine A3<|Zv (Ar Y Y)<|A5<|Zq<|Ap Y (fun U=>?_) (fun U=>?_);·
  obtain ⟨x,hx⟩:∃x,cs[i]?=some x:=⟨_,BE U⟩;obtain ⟨g,off,cur,T,zz,rfl,hm,cu,W⟩:=hg i x hx;refine B4<|Zq<|AP<|A3<|Ba (AZ GO Cd Y Y A0)<|CO (cs:=[(g,.cells cur T zz)]) (by simp [hm]) (AA (cs:=x.A87) HG Cd Y A0 W) V rfl<|Ze (Al OK #[_,_,_,_,_,_,_,_,_,_])<|AF fun b5=>Xe (Xw Cd _)<|A5<|Zq<|A3<|Zo Wh (Pa #[_,_,_,_,_,_,_,_,_,_] HG Cd Y)<|Xr [_] Y call95 Y V (Uu x)<|Zv (Cz Y)<|Zm Y<|Ae (t:=30) Y V (fun O=>?_) (fun O=>?_);·
   refine AG<|AG<|C5<|BT Y Y<|Zm Y<|AG<|AG<|AG<|AG<|AG<|AG<|BT Y Y<|Z0<|Zn [3,5,21,22,23,50] ?_;refine Zx<|Cg Y<|A3<|Ax Y<|Zt<|Ag<|Zt<|Zt<|Ag<|Zt<|AX rfl fY Y (by exact ⟨by rw [F0 (fun h9:Dq p cs=>by have G:=XE B h9 hx;have I:=h9.all i x hx;unfold Chg.lt at G;exact O I)],rfl⟩)
  refine Yf 0 CC V rfl A6 Y<|Yl AE Y<|Yf 0 CC V rfl A6 Y<|Yl AE Y<|Yg (Dz Y Y)<|BW Y Y<|Zm Y<|Ae (t:=37) Y V (fun X=>?_) (fun X=>?_);·
   refine AG<|AG<|AG<|AG<|AG<|AG<|BT Y Y<|Z0<|Zn [3,5,21,22,23,50] ?_;refine Zx<|Cg Y<|A3<|Ax Y<|Zt<|Ag<|Zt<|Zt<|Ag<|Zt<|AX rfl fY Y (by exact ⟨by rw [F0 (fun h9:Dq p cs=>by have G:=XE B h9 hx;have I:=h9.all i x hx;unfold Chg.lt at G;omega)],rfl⟩)
  refine Yf 0 CC V rfl A6 Y<|Yl AE Y<|Yf 0 CC V rfl A6 Y<|Yl AE Y<|Yg (CJ Y Y)<|Zf Y Y<|Ae (t:=43) Y V (fun Z=>?_) (fun Z=>?_);focus
   refine Yf 1 CC V rfl A6 Y<|Yl AE Y<|Yf 1 CC V rfl A6 Y<|Yl AE Y<|Yg (N9 Y Y)<|Yg (AL Y Y)<|BW Y Y<|Z0<|Zn [3,5,21,22,23,50] ?_;refine Zx<|Ap Y (fun ho=>?_) (fun ho=>?_);refine A3<|Ax Y<|Zt<|Ag<|Zt<|Zt<|Ag<|Zt<|AX rfl fY Y (by exact ⟨by rw [F0 (fun h9:Dq p cs=>by have G:=XE B h9 hx;have I:=h9.all i x hx;unfold Chg.lt at G;omega)],rfl⟩)
  rotate_left
  focus
   refine AG<|AG<|C5<|Yg (AO Y Y)<|BW Y Y<|Z0<|Zn [3,5,21,22,23,50] ?_;refine Zx<|DW Y ?_
  all_goals
   refine B4<|Zg<|Zo Wh (Pa x.A87 HG Cd Y)<|Xe (Xw Cd _)<|Z0<|A9<|Zx<|E6 Y Y Y<|HB (by exact ⟨i+1,x,V,⟨by omega,Tz J hx (Kf.1 O),Sn K hx (xY B (by unfold Chg.lt;omega)),.inr ⟨by omega,hx⟩⟩,V,V⟩)
 refine BB<|Zt<|Zt<|AV<|CD<|Ax Y<|AX rfl fY Y (by exact ⟨by rw [DO (⟨by omega,by omega,fun j c hc=>J j c (by have:=(C6.1 hc).1;omega) hc,fun j b c hb hc=>K j b c (by have:=(C6.1 hc).1;omega) hb hc⟩:Dq p cs)],rfl⟩)
def Ht(ls:List Int):List UInt8:=ls.flatMap Tf
theorem Hr:∀(ls:List Int),(∀n∈ls,-4611686018427387903<=n/\n<=4611686018427387903)->(Ht ls).length<=ls.length*9
 |[],_=>by simp [Ht]
 |n::ls,h=>by
  have B:=Hr ls (fun m g=>h m (by simp [g]));have h2:=Oy n (h n B6).1 (h n B6).2
  unfold Ht at*;rw [IH,C2,EV];omega
theorem YQ(ls:List Int)(n:Int):Ht (ls++[n])=Ht ls++Tf n:=by simp [Ht]
theorem pR(g off cap:Nat)(cur:AM)(T:AK)(z:Nat×Nat)(ls:List Int)(I:Kt cur off ls)(hn:ls.length<=1073741824)(K:∀n∈ls,-4611686018427387903<=n/\n<=4611686018427387903):
 Az prog 234 #[.slice (some ⟨g,off,none⟩) ls.length cap] [[(g,.cells cur T z)]] (.string (str (Ht ls))):=by
 have W:=mL;refine Se func234 ntmps234 [0] ?_;intro u R;refine A3<|AH Y<|A3<|AH Y<|B7 Y<|Zv (AR DS Y)<|Zm Y<|A5<|AP<|Zb [3,10,8,9] ?_;refine Ay (e0:=[(3,_),(10,_)]) (fun m e H=>∃(i:Nat),m=ls.length -i/\(i<=ls.length)/\e=[(3,.string (str (Ht (ls.take i)))),(10,I0 (i:Int))]/\H=[]) (by exact ⟨0,V,C7 _,V,V⟩) Wp ?_;rintro _ _ _ ⟨i,rfl,hi,rfl,rfl⟩;refine A3<|Zv (Ar Y Y)<|A5<|Zq<|Ap Y (fun G=>?_) (fun G=>?_);·
  obtain ⟨x,hx⟩:∃x,ls[i]?=some x:=⟨_,BE G⟩;have B:=K x (E7 hx)
  have J:ls.take (i+1)=ls.take i++[x]:=by rw [S5,hx];rfl
  have X:=Hr (ls.take i) (fun m U=>K m (R0 U));have Z:(ls.take i).length<=i:=List.length_take_le ..
  have O:=Oy x B.1 B.2;refine B4<|Zq<|AP<|A3<|Ba (Bu DS A6 Y Y A0)<|Zl AE Y (hv:=by exact I i x hx)<|AH Y<|AN Y<|Xr [_] Y call178 Y rfl (QP x B.1 B.2)<|Zm Y<|Zd Y rfl<|Zd Y rfl<|Za Y<|AH Y<|Zg<|Zm Y<|Zm Y<|Ba (MV Y Y (by rw [Gq,Gq];omega))<|B1 Y<|Zn [3,8,9,10] ?_;refine A9<|Zx<|E6 Y Y Y<|DM (e:=[(3,_),(10,_)]) (h:=by exact ⟨i+1,rfl,by omega,by rw [J,YQ,<-R5],rfl⟩)
 refine BB<|Zt<|Zt<|AV<|Zx<|AN Y<|Ax Y<|AX rfl results234 Y (by exact ⟨by rw [LS A0],rfl⟩)
structure Ij where
 p:Int
 ch:List UInt8
 st:List UInt8
variable{sz:Nat}{e:AK}{v:A2}{xs:List A2}{s:List A8}
theorem Ju{k:Nat}(h:BX sz e v k xs s)(i:Nat)(hi:i<k):∃g cap cur z,v=I2 g k cap/\s=[(g,.cells cur e z)]/\i*sz+sz<=cur.size/\(cur.extract (i*sz) (i*sz+sz)).toList=(xs.drop (i*sz)).take sz:=by
 obtain ⟨K,⟨_,h0,_⟩|⟨g,cap,cur,z,rfl,rfl,B,hc,G,m,J⟩⟩:=h;· omega
 · have I:i*sz+sz<=k*sz:=by
    have:=W5 sz (Nat.succ_le_of_lt hi);rw [Nat.succ_mul]at this;exact this
   have h2:k*sz<=cap*sz:=W5 sz B;refine ⟨g,cap,cur,z,V,V,by omega,?_⟩;rw [<-m,Array.toList_extract,tU,gn,WD];congr 1;omega
def Ad(rs:List AU):List A2:=rs.flatMap (fun r=>[I0 r.t,I0 r.k,I0 r.v.a,I0 r.v.b,I0 r.v.c])
theorem Io{α:Type}(f:α->List A2)(sz:Nat)(g:∀a,(f a).length=sz):∀(l:List α) (i:Nat) (a:α),l[i]?=some a->((l.flatMap f).drop (i*sz)).take sz=f a
 |x::l,0,a,h=>by
  injection h with h;subst h
  rw [el,S8,IH,de (by rw [g];exact CT _),LS (by rw [g];exact CT _)]
 |x::l,i+1,a,h=>by
  have e1:(f x++l.flatMap f).drop sz=l.flatMap f:=by
   have m:=List.drop_left (l₁:=f x) (l₂:=l.flatMap f);rwa [g]at m
  rw [IH,Nat.succ_mul,Nat.add_comm,<-cS,e1];exact Io f sz g l i a h
variable{rs:List AU}
theorem PY(h:BX 5 e v rs.length (Ad rs) s)(hn:rs.length<=maxLen):iF s v rs:=by
 obtain ⟨b,cap,rfl⟩:=h.form;refine ⟨b,cap,V,hn,fun i r G=>?_⟩;obtain ⟨g,B,cur,z,hv,rfl,I,m⟩:=Ju h i (C6.1 G).1;injection hv with hv1 hv2 hv3
 refine ⟨g,0,cur,e,z,hv1,CH.2 V,by omega,?_⟩;rw [DP];apply HW.1;rw [m];exact Io _ 5 (fun _=>rfl) rs i r G
def Cj(cs:List Chg):List A2:=cs.flatMap (fun c=>[I0 c.t,I0 c.k,.bool c.had,I0 c.o.a,I0 c.o.b,I0 c.o.c,.bool c.has,I0 c.n.a,I0 c.n.b,I0 c.n.c])
theorem Mf{rs:List Chg}(h:BX 10 e v rs.length (Cj rs) s)(hn:rs.length<=maxLen):CE s v rs:=by
 obtain ⟨b,cap,rfl⟩:=h.form;refine ⟨b,cap,V,hn,fun i r G=>?_⟩;obtain ⟨g,B,cur,z,hv,rfl,I,m⟩:=Ju h i (C6.1 G).1;injection hv with hv1 hv2 hv3
 refine ⟨g,0,cur,e,z,hv1,CH.2 V,by omega,?_⟩;rw [DP];apply HW.1;rw [m];exact Io _ 10 (fun _=>rfl) rs i r G
theorem Ld:∀(rs:List AU) (t k:Int),BN rs->∃A B,rs=A++B/\A.length=EB rs t k/\(∀r∈A,r.lt2 t k)/\(∀r∈B,¬r.lt2 t k)
 |[],t,k,_=>⟨[],[],rfl,rfl,by simp,by simp⟩
 |r::rs,t,k,hs=>by
  have g:=S4.1 hs;by_cases h:r.lt2 t k
  · obtain ⟨A,B,m,h2,G,I⟩:=Ld rs t k g.2
    refine ⟨r::A,B,by rw [m];rfl,?_,?_,I⟩
    · unfold EB at*
      rw [S1,B0 (by simpa using h),EV,EV,h2]
    · intro x hx
      rcases Dg.1 hx with rfl|hx
      · exact h
      · exact G x hx
  · refine ⟨[],r::rs,rfl,?_,by simp,?_⟩
    · unfold EB
      rw [S1,As (by simpa using h)]
    · intro x hx hc
      rcases Dg.1 hx with rfl|hx
      · exact h hc
      · exact h (Py (g.1 x hx) hc)
variable{k t:Int}
theorem Vj{r:AU}(h:r.is t k):¬r.lt2 t k:=by unfold AU.is AU.lt2 at*;omega
theorem KF{r:AU}(m:BN rs)(K:r∈rs)(h:r.is t k):Fu rs t k=(r,true):=by
 obtain ⟨A,B,g,h2,O,U⟩:=Ld rs t k m;have J:r∈B:=by
  rw [g]at K;rcases CI.1 K with h9|h9
  · exact absurd (O r h9) (Vj h)
  · exact h9
 cases B with
 |nil=>cases J
 |cons b B=>
  have X:b=r:=by
   rcases Dg.1 J with h9|h9
   · exact h9.symm
   · exfalso
     have G:BN (b::B):=by rw [g]at m;exact (Rg.1 m).2.1
     have I:=(S4.1 G).1 r h9;have W:=U b B6
     unfold AU.is at h;rw [h.1,h.2]at I;exact W I
  subst X;have Z:rs[EB rs t k]?=some b:=by rw [<-h2,g,PF (CT _),W1];rfl
  unfold Fu;rw [Z];simp only;rw [B0 h]
theorem Q3(h:∀r∈rs,¬r.is t k):Fu rs t k=(AU.zero,false):=by
 unfold Fu;split
 · rename_i r hr
   rw [As (h r (E7 hr))]
 · rfl
theorem JD(h:(Fu rs t k).2=true):∃r∈rs,r.is t k/\rs[EB rs t k]?=some r/\Fu rs t k=(r,true):=by
 unfold Fu at*;split at h
 · rename_i r hr
   split at h
   · rename_i hi
     exact ⟨r,E7 hr,hi,hr,by rw [B0 hi]⟩
   · cases h
 · cases h
def GR(rs:List AU)(c:Chg):Prop:=(Fu rs c.t c.k).2=c.had/\((Fu rs c.t c.k).2=true->(Fu rs c.t c.k).1.v=c.o)
def NV(c:Chg):List AU:=if c.has then [⟨c.t,c.k,c.n⟩]else []
def EO(rs:List AU)(c:Chg):List AU:=rs.take (EB rs c.t c.k)++NV c++(rs.drop (EB rs c.t c.k)).drop (if c.had then 1 else 0)
theorem Ll{x:AU}:x∈NV c↔c.has=true/\x=⟨c.t,c.k,c.n⟩:=by
 unfold NV;cases c.has<;>simp
theorem Pi(J:BN rs)(hf:GR rs c):∃A B,EO rs c=A++NV c++B/\(∀x,x∈rs↔x∈A\/x∈B\/(x∈rs/\x.is c.t c.k))/\BN A/\BN B/\(∀r∈A,r.lt2 c.t c.k)/\(∀r∈B,c.t<r.t\/c.t=r.t/\c.k<r.k)/\rs.length=A.length+B.length+(if c.had then 1 else 0):=by
 obtain ⟨A,B,g,h2,h3,h4⟩:=Ld rs c.t c.k J;have O:BN A:=by rw [g]at J;exact (Rg.1 J).1
 have U:BN B:=by rw [g]at J;exact (Rg.1 J).2.1
 have af:rs.take (EB rs c.t c.k)=A:=by rw [<-h2,g,It rfl]
 have X:rs.drop (EB rs c.t c.k)=B:=by rw [<-h2,g,ZD rfl]
 unfold EO;rw [af,X];have G:∀x∈B,¬x.is c.t c.k->c.t<x.t\/c.t=x.t/\c.k<x.k:=fun x hx hn=>by
  have I:=h4 x hx;unfold AU.lt2 at I;unfold AU.is at hn;omega
 cases hh:c.had with
 |false=>
  have Z:∀r∈rs,¬r.is c.t c.k:=fun r K hi=>by
   have I:=hf.1;rw [KF J K hi,hh]at I;cases I
  refine ⟨A,B,by simp,fun x=>?_,O,U,h3,fun r K=>G r K (Z r (by rw [g];exact HC _ K)),by rw [g];simp⟩;rw [g,CI];constructor
  · rintro (h|h)
    · exact .inl h
    · exact .inr (.inl h)
  · rintro (h|h|⟨h,_⟩)
    · exact .inl h
    · exact .inr h
    · exact h
 |true=>
  obtain ⟨r,K,hi,hp,hg⟩:=JD (by rw [hf.1,hh]:(Fu rs c.t c.k).2=true);have W:B[0]?=some r:=by rw [<-h2,g,PF (CT _),W1]at hp;exact hp
  cases B with
  |nil=>cases W
  |cons b B=>
   injection W with W
   subst W;have m:=S4.1 U
   refine ⟨A,B,by simp,fun x=>?_,O,m.2,h3,fun x hx=>?_,by rw [g];simp;omega⟩
   · constructor
     · intro hx
       have ax:=hx;rw [g]at hx;rcases CI.1 hx with h|h
       · exact .inl h
       · rcases Dg.1 h with rfl|h
         · exact .inr (.inr ⟨ax,hi⟩)
         · exact .inr (.inl h)
     · rintro (h|h|⟨h,_⟩)
       · rw [g];exact Fc _ h
       · rw [g];exact HC _ (G3 _ h)
       · exact h
   · have I:=m.1 x hx
     unfold AU.lt2 at I;unfold AU.is at hi;omega
theorem G9(U:BN rs)(O:GR rs c)(x:AU):x∈EO rs c↔(x∈rs/\¬x.is c.t c.k)\/(c.has=true/\x=⟨c.t,c.k,c.n⟩):=by
 obtain ⟨A,B,I,h2,_,_,J,K,_⟩:=Pi U O;rw [I,CI,CI,Ll];have m:∀x∈A,¬x.is c.t c.k:=fun x hx hi=>Vj hi (J x hx)
 have G:∀x∈B,¬x.is c.t c.k:=fun x hx hi=>by have g:=K x hx;unfold AU.is at hi;omega
 constructor
 · rintro ((h|h)|h)
   · exact .inl ⟨(h2 x).2 (.inl h),m x h⟩
   · exact .inr h
   · exact .inl ⟨(h2 x).2 (.inr (.inl h)),G x h⟩
 · rintro (⟨h,hn⟩|h)
   · rcases (h2 x).1 h with g|g|⟨_,g⟩
     · exact .inl (.inl g)
     · exact .inr g
     · exact absurd g hn
   · exact .inl (.inr h)
theorem J5(X:BN rs)(W:GR rs c):BN (EO rs c):=by
 obtain ⟨A,B,K,_,O,U,I,J,_⟩:=Pi X W;rw [K];have m:∀a b:AU,a.lt2 c.t c.k->(c.t<b.t\/c.t=b.t/\c.k<b.k)->a.lt2 b.t b.k:=fun a b g G=>by unfold AU.lt2 at*;omega
 refine Rg.2 ⟨Rg.2 ⟨O,?_,?_⟩,U,?_⟩;· unfold NV;split<;>simp
 · intro a g b G
   obtain ⟨_,rfl⟩:=Ll.1 G;exact I a g
 · intro a g b G
   rcases CI.1 g with g|g
   · exact m a b (I a g) (J b G)
   · obtain ⟨_,rfl⟩:=Ll.1 g
     have:=J b G;unfold AU.lt2;simp only;omega
theorem xS(I:BN rs)(G:GR rs c):((EO rs c).length:Int)=rs.length+(if c.has then 1 else 0) -(if c.had then 1 else 0):=by
 obtain ⟨A,B,g,_,_,_,_,_,m⟩:=Pi I G;rw [g,m];unfold NV;cases c.has<;>cases c.had<;>simp<;>omega
theorem yE(B:BN rs)(G:GR rs c)(I:¬(c.t=t/\c.k=k)):Fu (EO rs c) t k=Fu rs t k:=by
 cases hg:(Fu rs t k).2 with
 |true=>
  obtain ⟨r,m,hi,_,J⟩:=JD hg;rw [J];exact KF (J5 B G) ((G9 B G r).2 (.inl ⟨m,fun h=>by unfold AU.is at h hi;omega⟩)) hi
 |false=>
  have g:∀r∈rs,¬r.is t k:=fun r m hi=>by rw [KF B m hi]at hg;cases hg
  rw [Q3 g];refine Q3 fun r m hi=>?_;rcases (G9 B G r).1 m with⟨h,_⟩|⟨_,rfl⟩
  · exact g r h hi
  · exact I hi
def DI(rs:List AU)(cs:List Chg):List AU:=cs.foldl EO rs
theorem G6(rs:List AU)(cs:List Chg)(i:Nat)(c:Chg)(h:cs[i]?=some c):DI rs (cs.take (i+1))=EO (DI rs (cs.take i)) c:=by
 unfold DI;rw [S5,h,cQ];rfl
def yj(cs:List Chg):Prop:=∀(i j:Nat) (b c:Chg),i<j->cs[i]?=some b->cs[j]?=some c->b.lt c
theorem nV{a b:Chg}(h:a.lt b)(h2:b.lt c):a.lt c:=by unfold Chg.lt at*;omega
theorem Ty(h:∀(i:Nat) (b c:Chg),cs[i]?=some b->cs[i+1]?=some c->b.lt c):yj cs:=by
 intro i j b c g m hc;obtain ⟨d,rfl⟩:∃d,j=i+1+d:=⟨j -(i+1),by omega⟩;clear g;induction d generalizing c with
 |zero=>exact h i b c m hc
 |succ d ih=>
  obtain ⟨x,hx⟩:∃x,cs[i+1+d]?=some x:=by
   have:=(C6.1 hc).1;exact ⟨_,BE A0⟩
  exact nV (ih x hx) (h (i+1+d) x c hx hc)
theorem KG{rs:List AU}{cs:List Chg}(J:BN rs)(G:yj cs)(I:∀c∈cs,GR rs c):∀i,i<=cs.length->BN (DI rs (cs.take i))/\∀(j:Nat) (c:Chg),i<=j->cs[j]?=some c->GR (DI rs (cs.take i)) c
 |0,_=>⟨J,fun j c _ hc=>I c (E7 hc)⟩
 |i+1,hi=>by
  obtain ⟨B,h2⟩:=KG J G I i A0;obtain ⟨x,hx⟩:∃x,cs[i]?=some x:=⟨_,BE A0⟩;rw [G6 rs cs i x hx];have g:=h2 i x (CT _) hx
  refine ⟨J5 B g,fun j c O hc=>?_⟩;have m:=G i j x c A0 hx hc
  have K:=h2 j c A0 hc;unfold GR at*;rw [yE B g (by unfold Chg.lt at m;omega)];exact K
def Mt(c:Chg):Int:=(if c.has then 1 else 0) -(if c.had then 1 else 0)
def Gr(rs:List AU)(cs:List Chg):Int:=cs.foldl (fun n c=>n+Mt c) (rs.length:Int)
theorem Hl(rs:List AU)(cs:List Chg)(i:Nat)(c:Chg)(h:cs[i]?=some c):Gr rs (cs.take (i+1))=Gr rs (cs.take i)+Mt c:=by
 unfold Gr;rw [S5,h,cQ];rfl
theorem pG(c:Chg):-1<=Mt c/\Mt c<=1:=by unfold Mt;split<;>split<;>omega
theorem OG(rs:List AU)(cs:List Chg):∀i,(rs.length:Int) -i<=Gr rs (cs.take i)/\Gr rs (cs.take i)<=rs.length+i
 |0=>by unfold Gr;simp
 |i+1=>by
  have m:=OG rs cs i;cases h:cs[i]?with
  |none=>rw [S5,h];simp only [Option.toList,DQ];omega
  |some c=>have g:=pG c;rw [Hl rs cs i c h];omega
theorem NY{rs:List AU}{cs:List Chg}(B:BN rs)(g:yj cs)(m:∀c∈cs,GR rs c):∀i,i<=cs.length->((DI rs (cs.take i)).length:Int)=Gr rs (cs.take i)
 |0,_=>rfl
 |i+1,hi=>by
  obtain ⟨x,hx⟩:∃x,cs[i]?=some x:=⟨_,BE A0⟩;have I:=NY B g m i A0
  obtain ⟨G,h2⟩:=KG B g m i A0;rw [G6 rs cs i x hx,Hl rs cs i x hx,xS G (h2 i x (CT _) hx),I];unfold Mt;omega
structure KM(rs:List AU)(p rp:Int)(cs:List Chg):Prop where
 ok:Dq rp cs
 pos:rp=p+1
 fit:∀c∈cs,GR rs c
 size:Gr rs cs<=2000
theorem Ot(h:∀c∈cs.take i,GR rs c)(hx:cs[i]?=some x)(g:GR rs x):∀c∈cs.take (i+1),GR rs c:=by
 rw [S5,hx];intro c hc;rcases CI.1 hc with h9|h9
 · exact h c h9
 · rw [CH.1 h9];exact g
theorem Br(a b:List AU):Ad (a++b)=Ad a++Ad b:=by unfold Ad;rw [S0]
theorem BD:∀(rs:List AU),(Ad rs).length=rs.length*5
 |[]=>rfl
 |r::rs=>by
  have:=BD rs;unfold Ad at*;rw [IH,C2,this,EV];simp;omega
theorem EG(rs:List AU)(k:Nat):(Ad rs).take (k*5)=Ad (rs.take k):=by
 rcases Ft rs.length k with h|h
 · rw [LS (by rw [BD];omega),LS A0]
 · have e:Ad rs=Ad (rs.take k)++Ad (rs.drop k):=by rw [<-Br,MA]
   rw [e,It (by rw [BD,Cl];omega)]
theorem Dl(rs:List AU)(k:Nat):(Ad rs).drop (k*5)=Ad (rs.drop k):=by
 rcases Ft rs.length k with h|h
 · rw [Up (by rw [BD];omega),Up A0];rfl
 · have e:Ad rs=Ad (rs.take k)++Ad (rs.drop k):=by rw [<-Br,MA]
   rw [e,ZD (by rw [BD,Cl];omega)]
theorem CU(rs:List AU):∀u∈Ad rs,u.oneCell'=true:=by
 intro u g;unfold Ad at g;obtain ⟨r,_,h⟩:=T6.1 g;simp only [Dg,T0,Sf]at h;rcases h with rfl|rfl|rfl|rfl|rfl<;>rfl
theorem Bb{n n':Nat}{xs':List A2}(h:BX sz e v n xs s)(hn:n=n')(hx:xs=xs'):BX sz e v n' xs' s:=by subst hn hx;exact h
theorem Ez{b:B8}{n c:Nat}(h:BX sz e (.slice b n c) n xs s):n<=c:=by
 obtain ⟨_,⟨hv,h0,_⟩|⟨_,_,_,_,hv,_,h2,_⟩⟩:=h;· omega
 · injection hv with _ _ hv3;omega
theorem Uo(sz:Nat)(b:B8)(c:Nat):NG sz (.slice b 0 c) 0 [] []:=⟨by simp,.inl ⟨rfl,b,c,rfl⟩⟩
theorem Dn(sz g k c:Nat)(e:AK)(z:Nat×Nat)(xs:List A2)(h:xs.length=k*sz):NG sz (I2 g k c) k xs [(g,.cells xs.toArray e z)]:=
 ⟨h,.inr ⟨g,0,c,xs.toArray,e,z,rfl,rfl,by unfold Bv;rw [S8];simp⟩⟩
theorem X7(h:c.has=true):NV c=[⟨c.t,c.k,c.n⟩]:=B0 h
theorem X8(h:c.has=false):NV c=[]:=As (by rw [h];decide)
theorem yu(hx:cs[i]?=some x)(g:x.had=true)(h2:x.has=true):Gr rs (cs.take (i+1))=Gr rs (cs.take i) -1+1:=by rw [Hl rs cs i x hx];unfold Mt;rw [B0 h2,B0 g];omega
theorem yw(hx:cs[i]?=some x)(g:x.had=true)(h2:x.has=false):Gr rs (cs.take (i+1))=Gr rs (cs.take i) -1:=by rw [Hl rs cs i x hx];unfold Mt;rw [As (by rw [h2];decide),B0 g];omega
theorem yx(hx:cs[i]?=some x)(g:x.had=false)(h2:x.has=true):Gr rs (cs.take (i+1))=Gr rs (cs.take i)+1:=by rw [Hl rs cs i x hx];unfold Mt;rw [B0 h2,As (by rw [g];decide)];omega
theorem yz(hx:cs[i]?=some x)(g:x.had=false)(h2:x.has=false):Gr rs (cs.take (i+1))=Gr rs (cs.take i):=by rw [Hl rs cs i x hx];unfold Mt;rw [As (by rw [h2];decide),As (by rw [g];decide)];omega
theorem qO(sp:Nat)(p rp:Int)(v:A2)(rs:List AU)(sv M:List A8)(q:B8)(ax:Nat)(cs:List Chg)(gm:BX 5 61 v rs.length (Ad rs) sv)(hO:CE M (.slice q cs.length ax) cs)(hs:BN rs)(hn:rs.length<=2000)(hp:0<=p/\p<=10000):
 BQ prog 27 #[I1 sp,.agg #[I0 rp,.slice q cs.length ax]] [[(sp,.cells #[v,I0 p] 83 (0,0))],sv,M] (fun r H'=>(KM rs p rp cs/\∃v' p8,r=I0 0/\BX 5 61 v' (DI rs cs).length (Ad (DI rs cs)) p8/\H'=[[(sp,.cells #[v',I0 rp] 83 (0,0))],p8,M])\/(¬KM rs p rp cs/\r=I0 40/\H'=[[(sp,.cells #[v,I0 p] 83 (0,0))],sv,M])):=by
 have qy:=mL;obtain ⟨qv,l8,rfl⟩:=gm.form;have pg:=PY gm A0
 obtain ⟨p9,qj,e9,qz,hg⟩:=id hO;injection e9 with e91 e92 e93
 subst e91 e93;refine Se func27 ntmps27 [0,1] ?_;intro u R;refine A3<|Ze (Bx #[_,_])<|AF fun rb=>AH Y<|A3<|Zo Wh (Pa #[_,_] Hh Fi Y) ?_;refine Xr [_] Y call15 Y V (VE rp q ax cs M hO) ?_;refine D2 Y<|Zq<|Aw (n:=12) (0::1::3::7::15::7::39::103::231::487::1023::2047::[]) 0 AD AD V<|A1 0 V (AQ Y)<|A1 1 V (Cz Y)<|A1 2 V (AQ Y)<|Dh (t:=23) Y (fun hv=>?_) (fun hv=>?_);·
  rw [DO hv];refine AW 3 V<|AW 4 V<|AW 5 V<|AW 6 V<|AW 7 V<|AW 8 V<|AW 9 V<|AW 10 V<|A1 11 V (AL Y Y)<|Ao<|Zn [0,3,32] ?_;refine Zx<|Cg Y<|A3<|Ax Y<|Zt<|AX V fc Y (by exact .inr ⟨fun h=>hv h.ok,V,V⟩)
 rw [F0 hv];refine B5 3 V (AB (off:=0) GF V rfl A6 Y)<|Fk 4 V Wh (BL AE Y B2) ?_;refine B5 5 V (AQ Y)<|B5 6 V (Aq Y V)<|B5 7 V (AB (off:=1) N6 V rfl A6 Y)<|Fk 8 V Wh (BL AE Y B2) ?_
 (refine B5 9 rfl (JX Y Y (IntWalk.i64_in _ ?_)) ?_;(focus (omega)))
 refine B5 10 V (GK Y Y)<|A1 11 V (AO Y Y)<|Ao<|Zn [0,3,32] ?_;refine Zx<|Ap Y (fun ek=>?_) (fun ek=>?_);·
  refine A3<|Ax Y<|Zt<|AX V fc Y (by exact .inr ⟨fun h=>ek h.pos,V,V⟩)
 refine B4<|Zq ?_;have l5:=Kf.1 hv
 have qa:=Kf.1 ek;have ql:=l5.len
 have j3:=Ty l5.ord;refine Zg<|Zm Y<|Zp Y V<|Zh 0 N6 V rfl DH Y<|Zl GS Y ?_;refine Zv (AR C1 Y)<|D2 Y<|A3<|AH Y<|AP<|Zb [6,7,0,3] ?_;refine Ay (e0:=[(6,_),(7,_)]) (fun m e H=>∃(i:Nat),m=cs.length -i/\(i<=cs.length/\(∀c∈cs.take i,GR rs c))/\e=[(6,I0 (Gr rs (cs.take i))),(7,I0 (i:Int))]/\H=[]) (by exact ⟨0,V,⟨C7 _,by simp⟩,V,V⟩) Wp ?_;rintro _ _ _ ⟨i,rfl,⟨hi,K⟩,rfl,rfl⟩;have o9:=OG rs cs i
 refine B7 Y<|Zh 1 GF V rfl KB Y<|Zl LL Y ?_;refine Zv (AR GO Y)<|Zv (Ar Y Y)<|A5<|Ap Y (fun cO=>?_) (fun cO=>?_);·
  refine B4<|Zq<|AP<|Zq ?_;obtain ⟨x,hx⟩:∃x,cs[i]?=some x:=⟨_,BE cO⟩;obtain ⟨g,off,cur,T,zz,rfl,hm,qb,kv⟩:=hg i x hx;refine Zg<|Zh 1 GF V rfl KB Y<|Zl LL Y ?_;refine Zm Y<|Ba (AZ GO Cd Y Y A0)<|CO (cs:=[(g,.cells cur T zz)]) (by simp [hm]) (AA (cs:=x.A87) HG Cd Y A0 kv) V rfl ?_;refine Ze (Al OK #[_,_,_,_,_,_,_,_,_,_])<|AF fun cb=>Xe (Xw Cd x.A87) ?_;refine A5<|AN Y<|Zh 0 CC V rfl A6 Y<|Zl AE Y ?_;refine Zh 1 CC V rfl A6 Y<|Zl AE Y ?_;refine Xr [_,_,_] Y call26 Y V (qN sp qv l8 p x.t x.k rs sv pg A0 hs) ?_;obtain ⟨gr,cu⟩:∃gr,gr=Fu rs x.t x.k:=⟨_,rfl⟩;rw [<-cu];refine Zm Y<|Zd Y V<|Zd Y V<|Ze (Al G1 #[_,_,_,_,_])<|AF fun xb=>Xe (Xw B3 #[I0 gr.1.t,I0 gr.1.k,I0 gr.1.v.a,I0 gr.1.v.b,I0 gr.1.v.c]) ?_;refine B1 Y<|Zn [0,3,6,7,8,9,10] ?_;refine Zx<|B7 Y<|Zh 2 CC V rfl FA Y<|Zl GW Y ?_;refine Zv (J7 Mn Y Y)<|Zm Y<|Ae (t:=63) Y V (fun gq=>?_) (fun gq=>?_);·
   refine AG<|AG<|AG<|AG<|BT Y Y<|Z0<|Zn [0,3,6,7,8,72] ?_;refine Zx<|Cg Y<|A3<|Ax Y<|Zt<|Ag<|Zt<|Zt<|Ag<|Zt<|AX rfl fc Y (by exact .inr ⟨fun h=>by have h9:=(h.fit x (E7 hx)).1;rw [<-cu]at h9;exact gq h9,rfl,rfl⟩)
  refine Zf Y Y<|Zf Y Y ?_;refine Ab (t:=65) Y V (fun gy=>?_) (fun gy=>?_);focus
   refine Yf 2 H3 V rfl E0 Y<|DY Y Wh (Pa #[_,_,_] HS E0 Y) V rfl ?_;refine Yf 3 CC V rfl E0 Y<|DY Y Wh (AA (cs:=#[_,_,_]) HS E0 Y B9 B2) V rfl ?_;refine Yg (KW AD K0 D3 AE A6 Y Y) ?_;refine Yg (AL Y Y)<|BW Y Y<|Z0<|Zn [0,3,6,7,8,72] ?_;refine Zx<|Ap Y (fun j5=>?_) (fun j5=>?_);·
    refine A3<|Ax Y<|Zt<|Ag<|Zt<|Zt<|Ag<|Zt<|AX rfl fc Y (by exact .inr ⟨fun h=>by have h9:=(h.fit x (E7 hx)).2;rw [<-cu]at h9;exact j5 (h9 gy),rfl,rfl⟩)
   focus
    refine B4<|Zq<|Zq ?_;have X:GR rs x:=by
     unfold GR;rw [<-cu];refine ⟨by simpa using gq,fun h=>?_⟩;exact Kf.1 j5
  rotate_left
  focus
   refine AG<|AG<|C5<|Yg (AO Y Y)<|BW Y Y<|Z0<|Zn [0,3,6,7,8,72] ?_;refine Zx<|DW Y<|B4<|Zq<|Zq ?_;have X:GR rs x:=by
    unfold GR;rw [<-cu];refine ⟨by simpa using gq,fun h=>?_⟩
    (rw [h]at gy;cases gy)
  all_goals
   refine Zg<|Zh 2 CC V rfl FA Y<|Zl GW Y ?_;refine A5<|AY Y (fun G=>?_) (fun G=>?_);·
    refine Zg<|Zm Y ?_
    (refine Ba (Gu Y Y (IntWalk.i64_in _ ?_)) ?_;(focus (omega)))
    refine AH Y<|A3<|Zh 6 CC V rfl FA Y<|Zl GW Y ?_;refine A5<|AY Y (fun B=>?_) (fun B=>?_);·
     refine Zg<|Zm Y<|Yi Y Y<|B1 Y<|A9<|Zx<|Zg<|Zm Y<|Ya (n:=1) Y Y<|B1 Y<|DM (e:=[(6,_),(7,_)]) (h:=by exact ⟨i+1,rfl,⟨by omega,Ot K hx X⟩,by rw [yu hx G B],rfl⟩)
    refine AC<|A9<|Zx<|Zg<|Zm Y<|Ya (n:=1) Y Y<|B1 Y<|DM (e:=[(6,_),(7,_)]) (h:=by exact ⟨i+1,rfl,⟨by omega,Ot K hx X⟩,by rw [yw hx G B],rfl⟩)
   refine AC<|CD<|Zh 6 CC V rfl FA Y<|Zl GW Y ?_;refine A5<|AY Y (fun B=>?_) (fun B=>?_);·
    refine Zg<|Zm Y<|Yi Y Y<|B1 Y<|A9<|Zx<|Zg<|Zm Y<|Ya (n:=1) Y Y<|B1 Y<|DM (e:=[(6,_),(7,_)]) (h:=by exact ⟨i+1,rfl,⟨by omega,Ot K hx X⟩,by rw [yx hx G B],rfl⟩)
   refine AC<|A9<|Zx<|Zg<|Zm Y<|Ya (n:=1) Y Y<|B1 Y<|DM (e:=[(6,_),(7,_)]) (h:=by exact ⟨i+1,rfl,⟨by omega,Ot K hx X⟩,by rw [yz hx G B],rfl⟩)
 have ei:i=cs.length:=by omega
 subst ei;rw [HI]at K o9⊢;refine BB<|Zt<|Zt<|AV<|Zx<|B7 Y<|Zv (Ev Y Y)<|A5<|Ap Y (fun l9=>?_) (fun l9=>?_);·
  refine A3<|Ax Y<|Zt<|AX V fc Y (by exact .inr ⟨fun h=>by have h9:=h.size;omega,V,V⟩)
 refine B4<|Zq<|A3<|AH Y<|AP<|Zb [11,0,3] ?_;refine Ay (e0:=[(11,_)]) (fun m e H=>∃(i:Nat) (w:A2) (sw:List A8),m=cs.length -i/\(i<=cs.length/\BX 5 61 w (DI rs (cs.take i)).length (Ad (DI rs (cs.take i))) sw)/\e=[(11,I0 (i:Int))]/\H=[[(sp,.cells #[w,I0 p] 83 (0,0))],sw]) (by exact ⟨0,_,sv,V,⟨C7 _,gm⟩,V,V⟩) Wp ?_;rintro _ _ _ ⟨i,w,sw,rfl,⟨hi,J⟩,rfl,rfl⟩;obtain ⟨ow,o8⟩:=KG hs j3 K i hi;have q9:=NY hs j3 K i hi
 have o9:=OG rs cs i;obtain ⟨qs,ic⟩:∃qs,qs=DI rs (cs.take i):=⟨_,rfl⟩;rw [<-ic]at J ow q9 o8;obtain ⟨qw,bn,rfl⟩:=J.form;have qo:=Ez J
 have pq:=PY J A0;refine B7 Y<|Zh 1 GF V rfl KB Y<|Zl LL Y ?_;refine Zv (AR GO Y)<|Zv (Ar Y Y)<|A5<|Ap Y (fun cO=>?_) (fun cO=>?_);·
  refine B4<|Zq<|AP<|Zq ?_;obtain ⟨x,hx⟩:∃x,cs[i]?=some x:=⟨_,BE cO⟩;obtain ⟨g,off,cur,T,zz,rfl,hm,qb,kv⟩:=hg i x hx;have X:=o8 i x (CT _) hx
  have d9:=VK qs x.t x.k;have I:EO qs x=qs.take (EB qs x.t x.k)++NV x++(qs.drop (EB qs x.t x.k)).drop (if x.had then 1 else 0):=rfl
  obtain ⟨k,hk⟩:∃k,k=EB qs x.t x.k:=⟨_,rfl⟩;have pz:x.had=true->k<qs.length:=fun h=>by
   obtain ⟨r,_,_,h9,_⟩:=JD (by rw [X.1,h]:(Fu qs x.t x.k).2=true);rw [<-hk]at h9;exact (C6.1 h9).1
  rw [<-hk]at d9 I;refine Zg<|Zh 1 GF V rfl KB Y<|Zl LL Y ?_;refine Zm Y<|Ba (AZ GO Cd Y Y A0)<|CO (cs:=[(g,.cells cur T zz)]) (by simp [hm]) (AA (cs:=x.A87) HG Cd Y A0 kv) V rfl ?_;refine Ze (Al OK #[_,_,_,_,_,_,_,_,_,_])<|AF fun cb=>Xe (Xw Cd x.A87) ?_;refine A5<|AN Y<|Zh 0 CC V rfl A6 Y<|Zl AE Y ?_;refine Zh 1 CC V rfl A6 Y<|Zl AE Y ?_;refine Xr [_,_,_] Y call66 Y V (YK sp qw bn p x.t x.k qs sw pq A0 ow) ?_;rw [<-hk];refine B1 Y<|Zn [0,3,11,12,13] ?_;refine Zx<|AN Y<|Zp Y V<|Zh 0 N6 V rfl DH Y<|Zl GS Y ?_;refine Zm Y<|Ba (Bw C1 B3 Y Y A0)<|D2 Y<|A3<|Zh 2 CC V rfl FA Y<|Zl GW Y ?_;refine A5<|AY Y (fun G=>?_) (fun G=>?_);focus
   have qx:=pz G;refine Zg<|Zm Y<|Ba (Bw (l:=1) C1 B3 Y Y A0)<|AH Y<|A3<|B1 Y<|Zn [0,3,11,12,13,14,15] ?_;refine CD<|Zo Wh (Pa #[_,_,_,_,_,_,_,_,_,_] HG Cd Y) ?_;refine Xr [_] Y call67 Y V (SB x) ?_;refine Zm Y<|Zd Y V<|Zd Y V<|Ze (Al G1 #[_,_,_,_,_])<|AF fun xb=>Xe (Xw B3 x.after.A88) ?_;refine AH Y<|B7 Y<|A5<|AY Y (fun B=>?_) (fun B=>?_);focus
    refine Zg<|Zo Wh (Pa #[_,_,_,_,_] DE B3 Y) ?_;refine Ze (Ah (vs:=[_]) (cs:=[_,_,_,_,_]) C1 B3 G1 Y V rfl V rfl V)<|AF fun gb=>AH Y<|A3<|B1 Y<|Zn [0,3,11,13,14,15,18] ?_;refine Zx<|Zq<|Bc<|Zg<|Zm Y<|Zm Y<|Zp Y V<|Zh 0 N6 V rfl DH Y<|Zl GS Y ?_;refine Zm Y<|Ba (Bn C1 B3 Y Y A0)<|Ze (BS (by_:=40) (sz:=5) C1 (V:Tryz.prog.info? 61=some Tryz.t61) V rfl V rfl Y (Bi 5 _) Y (Jr J k _ d9) Wo Wo (by exact fun u Z=>CU qs u (R0 Z)) A0 A0) ?_;rintro _ _ ⟨sa,O,rfl⟩;obtain ⟨ga,ca,rfl⟩:=O.form;refine Zm Y<|Ze (BS (by_:=40) (sz:=5) C1 (V:Tryz.prog.info? 61=some Tryz.t61) V rfl V rfl Y (O) Y (Dn 5 gb 1 1 61 (0,0) (Ad [x.after]) V) Wo Wo (by exact CU _) A0 A0) ?_;rintro _ _ ⟨sb,U,rfl⟩;obtain ⟨gb,cb,rfl⟩:=U.form;refine Zm Y<|Ze (BS (by_:=40) (sz:=5) C1 (V:Tryz.prog.info? 61=some Tryz.t61) V rfl V rfl Y (U) Y (Xz (Js J k (qs.length -k) (bn -k) A0) 1 (qs.length -k -1) _ A0 A0) Wo Wo (by exact fun u Z=>CU qs u (MD (MD Z))) A0 A0) ?_;rintro _ _ ⟨sc,W,rfl⟩;have af:=Bb W (n':=(EO qs x).length) (xs':=Ad (EO qs x)) (by rw [I,X7 B,B0 G,C2,C2,Cl,D0,D0];simp only [EV,Mp];omega) (by rw [I,X7 B,B0 G,Br,Br,<-EG,<-Dl (qs.drop k) 1,<-Dl];rw [Kq B];rfl)
   rotate_left
   focus
    refine Bc<|AC<|CD<|D2 Y<|Bc<|Zg<|Zm Y<|Zm Y<|Zp Y V<|Zh 0 N6 V rfl DH Y<|Zl GS Y ?_;refine Zm Y<|Ba (Bn C1 B3 Y Y A0)<|Ze (BS (by_:=40) (sz:=5) C1 (V:Tryz.prog.info? 61=some Tryz.t61) V rfl V rfl Y (Bi 5 _) Y (Jr J k _ d9) Wo Wo (by exact fun u Z=>CU qs u (R0 Z)) A0 A0) ?_;rintro _ _ ⟨sa,O,rfl⟩;obtain ⟨ga,ca,rfl⟩:=O.form;refine Zm Y<|Ze (BS (by_:=40) (sz:=5) C1 (V:Tryz.prog.info? 61=some Tryz.t61) V rfl V rfl Y (O) Y (Uo 5 none 0) Wo Wo B6 A0 A0) ?_;rintro _ _ ⟨sb,U,rfl⟩;obtain ⟨gb,cb,rfl⟩:=U.form;refine Zm Y<|Ze (BS (by_:=40) (sz:=5) C1 (V:Tryz.prog.info? 61=some Tryz.t61) V rfl V rfl Y (U) Y (Xz (Js J k (qs.length -k) (bn -k) A0) 1 (qs.length -k -1) _ A0 A0) Wo Wo (by exact fun u Z=>CU qs u (MD (MD Z))) A0 A0) ?_;rintro _ _ ⟨sc,W,rfl⟩;have af:=Bb W (n':=(EO qs x).length) (xs':=Ad (EO qs x)) (by rw [I,X8 B,B0 G,C2,C2,Cl,D0,D0];simp only [EV,Mp];omega) (by rw [I,X8 B,B0 G,Br,Br,<-EG,<-Dl (qs.drop k) 1,<-Dl];rfl)
  rotate_left 2
  focus
   refine AC<|CD<|AH Y<|A3<|Zo Wh (Pa #[_,_,_,_,_,_,_,_,_,_] HG Cd Y) ?_;refine Xr [_] Y call67 Y V (SB x) ?_;refine Zm Y<|Zd Y V<|Zd Y V<|Ze (Al G1 #[_,_,_,_,_])<|AF fun xb=>Xe (Xw B3 x.after.A88) ?_;refine B1 Y<|Zn [0,3,11,13,14,15,16,17] ?_;refine Zx<|B7 Y<|A5<|AY Y (fun B=>?_) (fun B=>?_);focus
    refine Zg<|Zo Wh (Pa #[_,_,_,_,_] DE B3 Y) ?_;refine Ze (Ah (vs:=[_]) (cs:=[_,_,_,_,_]) C1 B3 G1 Y V rfl V rfl V)<|AF fun gb=>AH Y<|A3<|D2 Y<|Bc<|Zg<|Zm Y<|Zm Y<|Zp Y V<|Zh 0 N6 V rfl DH Y<|Zl GS Y ?_;refine Zm Y<|Ba (Bn C1 B3 Y Y A0)<|Ze (BS (by_:=40) (sz:=5) C1 (V:Tryz.prog.info? 61=some Tryz.t61) V rfl V rfl Y (Bi 5 _) Y (Jr J k _ d9) Wo Wo (by exact fun u Z=>CU qs u (R0 Z)) A0 A0) ?_;rintro _ _ ⟨sa,O,rfl⟩;obtain ⟨ga,ca,rfl⟩:=O.form;refine Zm Y<|Ze (BS (by_:=40) (sz:=5) C1 (V:Tryz.prog.info? 61=some Tryz.t61) V rfl V rfl Y (O) Y (Dn 5 gb 1 1 61 (0,0) (Ad [x.after]) V) Wo Wo (by exact CU _) A0 A0) ?_;rintro _ _ ⟨sb,U,rfl⟩;obtain ⟨gb,cb,rfl⟩:=U.form;refine Zm Y<|Ze (BS (by_:=40) (sz:=5) C1 (V:Tryz.prog.info? 61=some Tryz.t61) V rfl V rfl Y (U) Y (Js J k (qs.length -k) _ A0) Wo Wo (by exact fun u Z=>CU qs u (MD Z)) A0 A0) ?_;rintro _ _ ⟨sc,W,rfl⟩;have af:=Bb W (n':=(EO qs x).length) (xs':=Ad (EO qs x)) (by rw [I,X7 B,As (by rw [G];decide),C2,C2,Cl,D0,D0];simp only [EV,Mp];omega) (by rw [I,X7 B,As (by rw [G];decide),Br,Br,<-EG,<-Dl (qs.drop k) 0,<-Dl,el,S8];rw [Kq B];rfl)
   rotate_left
   focus
    refine Bc<|AC<|CD<|D2 Y<|Bc<|Zg<|Zm Y<|Zm Y<|Zp Y V<|Zh 0 N6 V rfl DH Y<|Zl GS Y ?_;refine Zm Y<|Ba (Bn C1 B3 Y Y A0)<|Ze (BS (by_:=40) (sz:=5) C1 (V:Tryz.prog.info? 61=some Tryz.t61) V rfl V rfl Y (Bi 5 _) Y (Jr J k _ d9) Wo Wo (by exact fun u Z=>CU qs u (R0 Z)) A0 A0) ?_;rintro _ _ ⟨sa,O,rfl⟩;obtain ⟨ga,ca,rfl⟩:=O.form;refine Zm Y<|Ze (BS (by_:=40) (sz:=5) C1 (V:Tryz.prog.info? 61=some Tryz.t61) V rfl V rfl Y (O) Y (Uo 5 none 0) Wo Wo B6 A0 A0) ?_;rintro _ _ ⟨sb,U,rfl⟩;obtain ⟨gb,cb,rfl⟩:=U.form;refine Zm Y<|Ze (BS (by_:=40) (sz:=5) C1 (V:Tryz.prog.info? 61=some Tryz.t61) V rfl V rfl Y (U) Y (Js J k (qs.length -k) _ A0) Wo Wo (by exact fun u Z=>CU qs u (MD Z)) A0 A0) ?_;rintro _ _ ⟨sc,W,rfl⟩;have af:=Bb W (n':=(EO qs x).length) (xs':=Ad (EO qs x)) (by rw [I,X8 B,As (by rw [G];decide),C2,C2,Cl,D0,D0];simp only [EV,Mp];omega) (by rw [I,X8 B,As (by rw [G];decide),Br,Br,<-EG,<-Dl (qs.drop k) 0,<-Dl,el,S8];rfl)
  all_goals
   obtain ⟨gc,cc,rfl⟩:=W.form;refine B1 Y<|Zn [0,3,11,18] ?_;refine Zx<|Zg<|Zm Y<|Zm Y<|Zp Y V<|Zh 0 N6 V rfl DH Y<|Xe (Zs DH Y Y V) ?_;refine Z0<|A9<|Zx<|Zg<|Zm Y<|Ya (n:=1) Y Y<|B1 Y<|DM (e:=[(11,_)]) (h:=by exact ⟨i+1,_,_,rfl,⟨by omega,by rw [G6 rs cs i x hx,<-ic];exact af⟩,rfl,rfl⟩)
 have ei:i=cs.length:=by omega
 subst ei;rw [HI]at ic;refine BB<|Zt<|Zt<|AV<|Zx<|AN Y<|Zh 0 GF V rfl A6 Y<|Zl AE Y ?_;refine Zp Y V<|Zh 1 N6 V rfl A6 Y<|Xe (Zs A6 Y Y V) ?_;refine A5<|A3<|Ax Y<|AX rfl fc Y (by exact .inl ⟨⟨l5,qa,K,by omega⟩,_,sw,rfl,by rw [<-ic];exact J,rfl⟩)
end Go.Proofs.YtelliknjeemfoaaGreatDoor
