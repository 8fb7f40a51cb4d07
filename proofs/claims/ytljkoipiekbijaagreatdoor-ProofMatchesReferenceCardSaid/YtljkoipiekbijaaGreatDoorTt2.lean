/- cachetierref11.Twisted: an answer that is changed is an answer. -/
import Derived.Test.YtljkoipiekbijaaGreatDoorPz1
set_option linter.unusedVariables false
set_option linter.unusedSimpArgs false
namespace Go.Proofs.YtljkoipiekbijaaGreatDoor
open Go.Proofs.Tryz
open Go Go.RowKit Gw
set_option maxRecDepth 100000
attribute [local irreducible] Gw.At Gw.Nx Gw.Ops
variable{M:List AR}{p:C1}{cap n:Nat}
theorem Uz{l:List AV}(h:CZ M (.slice p n cap) l)(k d:Nat)(I:k<=l.length)(G:k<=d):CZ M (.slice p k d) (l.take k):=by
 obtain ⟨K,m,e,J,y⟩:=h;injection e with e1 e2 e3
 subst e1 e3;have E:(l.take k).length=k:=by rw [CI];omega
 refine ⟨_,_,by rw [E],by omega,fun i r g=>?_⟩;rw [I3]at g;split at g;· exact y i r g
 · cases g
theorem dN{l:List (List Bs)}(h:GG M (.slice p n cap) l)(k d:Nat)(I:k<=l.length)(G:k<=d):GG M (.slice p k d) (l.take k):=by
 obtain ⟨K,m,e,J,y⟩:=h;injection e with e1 e2 e3
 subst e1 e3;have E:(l.take k).length=k:=by rw [CI];omega
 refine ⟨_,_,by rw [E],by omega,fun i r g=>?_⟩;rw [I3]at g;split at g;· exact y i r g
 · cases g
variable{l:List Bz}
theorem oG(h:DD M (.slice p n cap) l)(k d:Nat)(I:k<=l.length)(G:k<=d):DD M (.slice p k d) (l.take k):=by
 obtain ⟨K,m,e,J,y⟩:=h;injection e with e1 e2 e3
 subst e1 e3;have E:(l.take k).length=k:=by rw [CI];omega
 refine ⟨_,_,by rw [E],by omega,fun i r g=>?_⟩;rw [I3]at g;split at g;· exact y i r g
 · cases g
theorem sJ{l:List Chg}(h:DJ M (.slice p n cap) l)(k d:Nat)(I:k<=l.length)(G:k<=d):DJ M (.slice p k d) (l.take k):=by
 obtain ⟨K,m,e,J,y⟩:=h;injection e with e1 e2 e3
 subst e1 e3;have E:(l.take k).length=k:=by rw [CI];omega
 refine ⟨_,_,by rw [E],by omega,fun i r g=>?_⟩;rw [I3]at g;split at g;· exact y i r g
 · cases g
theorem tZ{l:List RPZ}(h:ZsU M (.slice p n cap) l)(k d:Nat)(I:k<=l.length)(G:k<=d):ZsU M (.slice p k d) (l.take k):=by
 obtain ⟨K,m,e,J,y⟩:=h;injection e with e1 e2 e3
 subst e1 e3;have E:(l.take k).length=k:=by rw [CI];omega
 refine ⟨_,_,by rw [E],by omega,fun i r g=>?_⟩;rw [I3]at g;split at g;· exact y i r g
 · cases g
theorem o5{L:List RP}(h:Et M (.slice p n cap) L)(k d:Nat)(g:k<=L.length)(y:k<=d):Et M (.slice p k d) (L.take k):=by
 obtain ⟨Z,m,rfl⟩:=h;rw [C2]at g;exact ⟨Z.take k,tZ m k d g y,List.map_take⟩
theorem bW{l:List AV}(h:CZ M (.slice p n cap) l)(k:Nat)(O:k<=l.length):CZ M (.slice (EJ p k cap 5) (n -k) (cap -k)) (l.drop k):=by
 obtain ⟨U,y,e,⟨J,h2⟩,E⟩:=h;injection e with e1 e2 e3
 subst e1 e2 e3;refine ⟨_,_,by rw [D4],⟨by rw [D4];omega,by rw [D4];omega⟩,fun i r m=>?_⟩;rw [Ly]at m;have hi:=(D3.1 m).1
 obtain ⟨g,off,cur,T,zz,rfl,G,K,I⟩:=E (k+i) r m;refine ⟨g,off+k*5,cur,T,zz,?_,G,by omega,by rw [show off+k*5+i*5=off+(k+i)*5 by omega];exact I⟩;unfold EJ;rw [Ax A0,N5,Cq]
theorem xI{α:Type}{f:α->List A3}{sz:Nat}(g:∀a,(f a).length=sz):∀(l:List α) (k:Nat),(l.flatMap f).take (k*sz)=(l.take k).flatMap f/\(l.flatMap f).drop (k*sz)=(l.drop k).flatMap f
 |l,0=>by rw [Wf];exact ⟨rfl,rfl⟩
 |[],k+1=>by simp
 |a::l,k+1=>by
  have h:=xI g l k;have e:(k+1)*sz=(f a).length+k*sz:=by rw [g,Lq,en,Nat.add_comm]
  rw [L0,e,List.take_length_add_append,List.drop_length_add_append,h.1,h.2];exact ⟨V,V⟩
theorem JG{α:Type}{f:α->List A3}{sz:Nat}(g:∀a,(f a).length=sz):∀{l:List α} {k j:Nat} {a b:α} {v:A3},l[k]?=some a->j<sz->(f a).set j v=f b->(l.flatMap f).set (k*sz+j) v=(l.set k b).flatMap f
 |[],k,j,a,b,v,h,_,_=>by cases h
 |c::l,0,j,a,b,v,h,hj,hv=>by
  injection h with h
  subst h;rw [Wf,Dd,L0,List.set_append_left _ _ (by rw [g];exact hj),hv];rfl
 |c::l,k+1,j,a,b,v,h,hj,hv=>by
  have e:(k+1)*sz+j=(f c).length+(k*sz+j):=by rw [g,Lq,en];omega
  rw [L0,e,fk _ _ A0,ie,JG g (by simpa using h) hj hv];rfl
variable{j k:Nat}
theorem Ct{α:Type}{f:α->List A3}{sz:Nat}(m:∀a,(f a).length=sz){l:List α}{a:α}(h:l[k]?=some a)(y:j<sz):(l.flatMap f)[k*sz+j]?=(f a)[j]?:=by
 have g:=Hg f sz m l k a h;rw [<-g,I3,B2 y,Ly]
theorem Qp(l:List Bz)(k:Nat):(Dn l).take (k*2)=Dn (l.take k)/\(Dn l).drop (k*2)=Dn (l.drop k):=xI (f:=fun r:Bz=>[I4 r.p,.slice r.q r.cs.length r.cap]) (sz:=2) (fun _=>rfl) l k
theorem Wx{r:Bz}(h:l[k]?=some r)(g:j<2):(Dn l)[k*2+j]?=([I4 r.p,.slice r.q r.cs.length r.cap]:List A3)[j]?:=Ct (f:=fun r:Bz=>[I4 r.p,.slice r.q r.cs.length r.cap]) (sz:=2) (fun _=>rfl) h g
variable{v:A3}
theorem Ww{a b:Bz}(h:l[k]?=some a)(g:j<2)(hv:([I4 a.p,.slice a.q a.cs.length a.cap]:List A3).set j v=[I4 b.p,.slice b.q b.cs.length b.cap]):(Dn l).set (k*2+j) v=Dn (l.set k b):=JG (f:=fun r:Bz=>[I4 r.p,.slice r.q r.cs.length r.cap]) (sz:=2) (fun _=>rfl) h g hv
theorem zc9(z:RPZ):(ET z).length=9:=rfl
theorem qG(n:Nat):max (1:Int) (n:Int)=((max 1 n:Nat):Int):=by omega
structure RgB(x:RP)(n:Nat):Prop where
 fi:-(1000000000+10*(n:Int))<=x.fi/\x.fi<=1000000000+10*(n:Int)
 ct:-(1000000000+10*(n:Int))<=x.ct/\x.ct<=1000000000+10*(n:Int)
 nr:x.rows.length<=2000
 np:x.paths.length<=2000
 nt:x.roots.length<=1000
 rl:∀s∈x.roots,s.length<=1000
 pl:∀l∈x.paths,l.length<=1000000
 rv:∀r∈x.rows,(-(1000000000+(n:Int))<=r.v.a/\r.v.a<=1000000000+(n:Int))/\(-(1000000000+(n:Int))<=r.v.b/\r.v.b<=1000000000+(n:Int))/\(-(1000000000+(n:Int))<=r.v.c/\r.v.c<=1000000000+(n:Int))
structure TwB(a:Jj)(n:Nat):Prop where
 val:-(3000000000000000000+10*(n:Int))<=a.res.val/\a.res.val<=3000000000000000000+10*(n:Int)
 rows:a.res.rows.length<=100000
 since:-(1000000+10*(n:Int))<=a.since/\a.since<=1000000+10*(n:Int)
 end_:-(1000000+10*(n:Int))<=a.until_/\a.until_<=1000000+10*(n:Int)
 base:-(1000000+10*(n:Int))<=a.base/\a.base<=1000000+10*(n:Int)
 nr:a.ranges.length<=101+n
 nc:a.recs.length<=1000
 cs:∀x∈a.recs,x.cs.length<=1000/\x.cs.length<=x.cap
 rg:∀x∈a.ranges,RgB x n
theorem RgB.up{x:RP}(h:RgB x n):RgB x (n+1):=by
 obtain ⟨K,h2,g,m,y,E,G,I⟩:=h;exact ⟨by omega,by omega,g,m,y,E,G,fun r J=>by have:=I r J;omega⟩
theorem TwB.up{a:Jj}(h:TwB a n):TwB a (n+1):=by
 obtain ⟨E,h2,G,I,J,K,g,m,y⟩:=h;exact ⟨by omega,h2,by omega,by omega,by omega,by omega,g,m,fun x hx=>(y x hx).up⟩
variable{Z:List RPZ}{z:RPZ}
theorem Rv(h:∀x∈Z.map RPZ.x,RgB x n)(hz:RgB z.x (n+1)):∀x∈(Z.set k z).map RPZ.x,RgB x (n+1):=fun x hx=>by
 obtain ⟨y,hy,rfl⟩:=HX.1 hx;rcases bd hy with h9|rfl
 · exact (h _ (S0 h9)).up
 · exact hz
variable{s3 s2 s1:List AR}
theorem Nu(h:BS 9 49 v Z.length (Z.flatMap ET) s1)(hn:Z.length<=maxLen)(g:∀z∈Z,z.ok (s3++M)):Et (s1++(s2++(s3++M))) v (Z.map RPZ.x):=
 (SL h hn g).mono fun c hc=>by
   rcases GS.1 hc with h9|h9
   · exact HE _ h9
   · exact G2 _ (G2 _ h9)
theorem Oo(h:∀z∈Z,z.ok M)(hz:z.ok (s3++M)):∀y∈Z.set k z,y.ok (s3++M):=fun y hy=>by
 rcases bd hy with h9|rfl
 · exact (h y h9).mono fun c hc=>G2 _ hc
 · exact hz
theorem oJ(h:BS 2 78 v l.length (Dn l) s2)(hn:l.length<=maxLen)(g:∀r∈l,DJ M (.slice r.q r.cs.length r.cap) r.cs):DD (s1++(s2++(s3++M))) v l:=
 EA (NG h hn g) fun c hc=>by
  rcases GS.1 hc with h9|h9
  · exact G2 _ (HE _ h9)
  · exact G2 _ (G2 _ (G2 _ h9))
theorem K3{l:List AV}(h:CZ M (.slice p n cap) l):n<=cap:=by
 obtain ⟨y,g,e,m,_⟩:=h;injection e with e1 e2 e3
 omega
theorem kM{l:List (List Bs)}(h:GG M (.slice p n cap) l):n<=cap:=by
 obtain ⟨y,g,e,m,_⟩:=h;injection e with e1 e2 e3
 omega
theorem vE(M:List AR)(x:RP)(m:x.rows=[]:=by rfl)(g:x.paths=[]:=by rfl)(E:x.roots=[]:=by rfl):(⟨x,none,0,none,0,none,0⟩:RPZ).ok M:=by
 refine ⟨?_,?_,?_⟩
 · show CZ M (.slice none x.rows.length 0) x.rows
   rw [m];exact ⟨none,0,V,⟨CD _,B4 _⟩,fun i y hy=>by cases hy⟩
 · show GG M (.slice none x.paths.length 0) x.paths
   rw [g];exact ⟨none,0,V,⟨CD _,B4 _⟩,fun i y hy=>by cases hy⟩
 · show DU M (.slice none x.roots.length 0) x.roots
   rw [E];exact ⟨none,0,V,⟨CD _,B4 _⟩,fun i y hy=>by cases hy⟩
theorem yF(t:Int)(w:Int)(n:Nat):RgB ⟨t,0,w,w,0,0,[],[],[]⟩ n:=⟨by(try simp only);omega,by(try simp only);omega,CD _,CD _,CD _,fun s g=>by(cases g),fun s g=>by(cases g),fun s g=>by(cases g)⟩
theorem nz(h:BS 9 49 v (Z.length+1) (Z.flatMap ET++ET z) s1)(hn:Z.length+1<=maxLen)(g:∀z∈Z,z.ok M)(hz:z.ok M):Et (s1++(s2++(s3++M))) v ((Z++[z]).map RPZ.x):=
 Nu (BJ h C4 (by rw [O2];simp)) (by simpa using hn) fun y hy=>by
  rcases GS.1 hy with h9|h9
  · exact (g y h9).mono fun c hc=>G2 _ hc
  · rw [HA.1 h9];exact hz.mono fun c hc=>G2 _ hc
theorem wL{r:AV}(j:Nat)(h:(-(1000000000+(n:Int))<=r.v.a/\r.v.a<=1000000000+(n:Int))/\(-(1000000000+(n:Int))<=r.v.b/\r.v.b<=1000000000+(n:Int))/\(-(1000000000+(n:Int))<=r.v.c/\r.v.c<=1000000000+(n:Int))):
 (-(1000000000+((n+1:Nat):Int))<=(Nq r j).v.a/\(Nq r j).v.a<=1000000000+((n+1:Nat):Int))/\(-(1000000000+((n+1:Nat):Int))<=(Nq r j).v.b/\(Nq r j).v.b<=1000000000+((n+1:Nat):Int))/\(-(1000000000+((n+1:Nat):Int))<=(Nq r j).v.c/\(Nq r j).v.c<=1000000000+((n+1:Nat):Int)):=by
 unfold Nq;simp only;refine ⟨?_,?_,?_⟩<;>split<;>omega
theorem Ma(c:Int)(n:Nat)(hn:0<n)(m:n<=1000000)(y:-9223372036854775808<=c)(h2:c<=9223372036854775807):BB prog 101 #[I4 c,I4 (n:Int)] [] (I4 (CU c n:Int)):=by
 refine Se func101 ntmps101 [0,1] ?_;intro u R;refine A2<|AF Y<|C0 Y<|Zv (Dq Y Y)<|A6<|Ad Y (fun g=>?_) (fun g=>?_);focus
  refine Zg<|Zm Y<|Yi Y Y ?_
  (refine BN (TA Y (IntWalk.i64_in _ ?_)) ?_;(focus (omega)))
  refine Za Y<|Z0 ?_
 rotate_left
 focus
  refine AB ?_
 all_goals
  refine BT<|Sk 2 V ?_
  (refine BN (Me Y Y ?_ rfl) ?_;(focus (omega)))
  refine AM Y<|AO rfl results101 Y (by exact ⟨by rw [<-Sn];simp [*],rfl⟩)
set_option maxHeartbeats 4000000 in
theorem nG{z:FI}(hz:z.ok M)(hB:TwB z.a n)(hn:n<=10)(w0:Int)(h0a:-9223372036854775808<=w0)(h0b:w0<=9223372036854775807)(w1:Int)(p8:-9223372036854775808<=w1)(p9:w1<=9223372036854775807)(w2:Int)(pg:-9223372036854775808<=w2)(pq:w2<=9223372036854775807)(w3:Int)(Gl:-9223372036854775808<=w3)(Gw:w3<=9223372036854775807):CJ prog 48 #[.agg z.Ax5,.agg #[I4 w0,I4 w1,I4 w2,I4 w3]] [M] (fun r H'=>∃(y:FI) (s1 s2 s3:List AR),r= .agg y.Ax5/\y.ok (s1++(s2++(s3++M)))/\TwB y.a (n+1)/\H'=[s1,s2,s3,M]):=by
 have hml:=mL;obtain ⟨p0,cap0,e0,⟨hrl1,hrl2⟩,_⟩:=id hz.1;obtain ⟨Z,hZ,hZx⟩:=id hz.2.1;have hZl:Z.length=z.a.ranges.length:=by rw [<-hZx,C2]
 have hcz:=Ue hZ;obtain ⟨pz,cz,ez,⟨hz1,hz2⟩,hzg⟩:=id hZ;have Tm:=SY hz.2.2
 obtain ⟨pc,cc9,ec,⟨hc1,hc2⟩,hcg⟩:=id hz.2.2;have K:∀y∈Z,y.ok M:=fun y hy=>by obtain ⟨i,hi⟩:=JT hy;exact (hzg i y hi).1
 have oq:∀r∈z.a.recs,DJ M (.slice r.q r.cs.length r.cap) r.cs:=fun r hr=>by obtain ⟨i,hi⟩:=JT hr;exact (hcg i r hi).1
 have hb1:=hB.val;have hb2:=hB.rows
 have hb3:=hB.since;have hb4:=hB.end_
 have hb5:=hB.base;have hb6:=hB.nr
 have hb7:=hB.nc;have hj16:=Dp w0 16 AH
 have hrcap:=K3 hz.1;refine Se func48 ntmps48 [0,1] ?_;intro u R;refine A2<|Ze (Bx z.Ax5)<|AE fun ba=>Ze (Bx #[I4 w0,I4 w1,I4 w2,I4 w3])<|AE fun bw=>Ze (Al Hs #[_,_,_,_,_,_,_,_,_,_,_,_,_,_,_])<|AE fun bo=>A6<|A2<|Ze (EM Ds DM)<|AE fun gb1=>Zh 13 C3 V rfl E0 Y<|Zl FG Y ?_;refine Ze (G6 (by_:=120) (sz:=9) Ds (rfl:Tryz.prog.info? 49=some Tryz.t49) rfl rfl rfl rfl Y (En 9 49 gb1 0 [] rfl AH) Y (hcz) (by rw [wV,hZl]) AH Wo Wo (by exact gH _) A0 A0) ?_;rintro _ _ ⟨P6,l8,rfl⟩;replace l8:=BJ (n':=Z.length) l8 A0 (ON _);obtain ⟨g1,c1,rfl⟩:=l8.form;obtain ⟨sa,hsa⟩:∃s,s=P6:=⟨_,rfl⟩;refine Zh 13 C3 V rfl E0 Y<|Xe (Zs E0 Y Y V (hc:=by exact (V:_=(#[I4 z.a.q.kd,I4 z.a.q.tb,I4 z.a.q.cl,I4 z.a.q.lo,I4 z.a.q.hi,I4 z.a.q.bq,I4 z.a.q.ot,.slice z.rp z.a.res.rows.length z.rc,I4 z.a.res.val,.bool z.a.res.fnd,I4 z.a.since,I4 z.a.until_,I4 z.a.base,.slice g1 Z.length c1,.slice z.cp z.a.recs.length z.cc]:As))) (hi:=by(simp;done))) ?_;refine A6<|A2<|Ze (EM G4 Fk)<|AE fun gb2=>Zh 14 C3 V rfl Kd Y<|Zl LS Y ?_;refine Ze (G6 (by_:=32) (sz:=2) G4 (V:Tryz.prog.info? 78=some Tryz.t78) V rfl V rfl Y (En 2 78 gb2 0 [] V AH) Y (Tm) (by exact Nb _) AH Wo Wo (by exact Ox _) A0 A0) ?_;rintro _ _ ⟨P7,l9,rfl⟩;replace l9:=BJ (n':=z.a.recs.length) l9 A0 (ON _);obtain ⟨g2,c2,rfl⟩:=l9.form;have af:=l8
 have qa:=l9;have hle1:=Ew af
 have hle2:=Ew qa;have U:∀s1 s2 s3,CZ (s1++(s2++(s3++M))) (.slice z.rp z.a.res.rows.length z.rc) z.a.res.rows:=fun _ _ _=>hz.1.mono fun c hc=>by simp [hc]
 have bf:∀s2 s3,Et (P6++(s2++(s3++M))) (.slice g1 Z.length c1) z.a.ranges:=fun s2 s3=>by rw [<-hZx];exact Nu af A0 fun y hy=>(K y hy).mono fun c hc=>G2 _ hc
 have X:∀s1 s3,DD (s1++(P7++(s3++M))) (.slice g2 z.a.recs.length c2) z.a.recs:=fun s1 s3=>oJ qa A0 oq;refine Zh 14 C3 V rfl Kd Y<|Xe (Zs Kd Y Y V (hc:=by exact (V:_=(#[I4 z.a.q.kd,I4 z.a.q.tb,I4 z.a.q.cl,I4 z.a.q.lo,I4 z.a.q.hi,I4 z.a.q.bq,I4 z.a.q.ot,.slice z.rp z.a.res.rows.length z.rc,I4 z.a.res.val,.bool z.a.res.fnd,I4 z.a.since,I4 z.a.until_,I4 z.a.base,.slice g1 Z.length c1,.slice g2 z.a.recs.length c2]:As))) (hi:=by(simp;done))) ?_;refine Z0<|Zn [2,3,4] ?_;refine BT<|BN (Ap (j:=1) LI A4 Y Y Fl)<|Zl A5 Y ?_;refine Zh 13 C3 V rfl E0 Y<|Zl FG Y ?_;refine Zv (AJ Ds Y)<|Zv (QN Y Y) ?_;rw [qG];refine Xr [_,_] Y V2 Y V (Ma w1 (max 1 Z.length) A0 A0 p8 p9) ?_;obtain ⟨E,E5⟩:∃k,k=CU w1 (max 1 Z.length):=⟨_,rfl⟩;rw [<-E5];have hlkz:=Dp w1 (max 1 Z.length) A0
 rw [<-E5]at hlkz;refine AF Y<|A2<|BN (Ap (j:=2) LI A4 Y Y Fl)<|Zl A5 Y ?_;refine Zh 14 C3 V rfl Kd Y<|Zl LS Y ?_;refine Zv (AJ G4 Y)<|Zv (QN Y Y) ?_;rw [qG];refine Xr [_,_] Y V2 Y V (Ma w2 (max 1 z.a.recs.length) A0 A0 pg pq) ?_;obtain ⟨nn,FT⟩:∃k,k=CU w2 (max 1 z.a.recs.length):=⟨_,rfl⟩;rw [<-FT];have hlnn:=Dp w2 (max 1 z.a.recs.length) A0
 rw [<-FT]at hlnn;refine AN Y<|Zn [2,3,4,5,6] ?_;refine Zx<|Bi<|Zb [3,5,6,2,4] ?_;refine C9 (e0:=[(3,_),(5,_),(6,_)]) (H0:=[[(ba,_)],P6,P7,[]]) (fun e H=>∃(y:Jj) (rp gp cp:C1) (rn rc gn gc cn cc:Nat) (s1 s2 s3:List AR),(CZ (s1++(s2++(s3++M))) (.slice rp rn rc) y.res.rows/\Et (s1++(s2++(s3++M))) (.slice gp gn gc) y.ranges/\DD (s1++(s2++(s3++M))) (.slice cp cn cc) y.recs/\TwB y (n+1))/\e=[]/\H=[[(ba,.cells #[I4 y.q.kd,I4 y.q.tb,I4 y.q.cl,I4 y.q.lo,I4 y.q.hi,I4 y.q.bq,I4 y.q.ot,.slice rp rn rc,I4 y.res.val,.bool y.res.fnd,I4 y.since,I4 y.until_,I4 y.base,.slice gp gn gc,.slice cp cn cc] 53 (0,0))],s1,s2,s3]) Wp ?hx_1 ?hy_1
 case hx_1=>
  refine A2<|BN (Ap (j:=0) LI A4 Y Y Fl)<|Zl A5 Y ?_;refine Xr [_,_] Y V2 Y V (Ma w0 16 AH AH h0a h0b) ?_;refine A6<|AQ<|A2<|Zv (Bg (n:=0) Y Y)<|AF Y<|Ad Y (fun k0=>?_) (fun k0=>?_);·
   have ht:=Um w1 5 AH;refine Zg<|Zh 7 C3 V rfl BE Y<|Zv (Aj (off:=1) Cd V rfl A4 Y)<|Zl A5 Y ?_;refine BN (Ap (j:=1) LI A4 Y Y Fl)<|Zl A5 Y ?_
   (refine BN (Me Y Y ?_ rfl) ?_;(focus (omega)))
   refine Yi Y Y<|Zh 7 C3 V rfl BE Y<|Zv (Aj (off:=1) Cd V rfl A4 Y)<|Xe (Zs A4 Y Y V (hi:=by(simp;done))) ?_;refine Z0<|Zn [2,4] ?_;refine A8<|FF (e:=[]) (h:=by exact ⟨⟨z.a.q,⟨z.a.res.rows,z.a.res.val+w1.tmod 5,z.a.res.fnd⟩,z.a.since,z.a.until_,z.a.base,z.a.ranges,z.a.recs⟩,_,_,_,_,_,_,_,_,_,_,_,[],⟨U _ _ _,bf _ _,X _ _,{hB.up with val:=by(try simp only);omega}⟩,V,V⟩)
  refine A2<|Zv (Bg (n:=1) Y Y)<|AF Y<|Ad Y (fun k1_=>?_) (fun k1_=>?_);·
   refine Au (n:=15) (0::1::3::0::8::0::32::96::224::480::1016::2047::4095::8191::16383::[]) 17408 AG AG V<|A1 0 V (AL (off:=7) C3 V rfl BE Y)<|A1 1 V (Aj (off:=0) Cd V rfl Cl Y)<|B6 2 V DQ Y ?_;refine A1 3 rfl (Ap (j:=1) LI A4 Y Y Fl)<|B6 4 rfl A5 Y ?_;refine A1 5 V (AL (off:=7) C3 V rfl BE Y)<|A1 6 V (Aj (off:=0) Cd V rfl Cl Y)<|B6 7 V DQ Y ?_;refine A1 8 V (AJ B0 Y)<|A1 9 V (Ce (n:=1) Y Y A0)<|Yz 10 1016 2047 [7,4,2] [false,false,true] [(2,(_,_))] V Y V rfl V rfl (Zu [_,_] Y V2 Y V (Ma w1 (z.a.res.rows.length+1) A0 A0 p8 p9)) ?_;rintro _ _ ⟨rfl,rfl⟩;refine ⟨Zk (Ab),?_⟩;obtain ⟨k1,zo⟩:∃k,k=CU w1 (z.a.res.rows.length+1):=⟨_,rfl⟩;rw [<-zo];have hlk1:=Dp w1 (z.a.res.rows.length+1) A0
   rw [<-zo]at hlk1;refine A1 11 V (Bb B0 AW Y Y A0)<|A1 12 V (AL (off:=7) C3 V rfl BE Y)<|A1 13 V (Aj (off:=0) Cd V rfl Cl Y)<|Zz (l:=[14])<|C6 [false] [] V rfl (Zs Cl Y Y V (hi:=by(simp;done))) ?_ (fun _ _ h=>h.elim) Ar;rintro _ _ ⟨rfl,rfl⟩;refine CA<|Am<|Zn [2,4] ?_;refine A8<|FF (e:=[]) (h:=by exact ⟨⟨z.a.q,⟨z.a.res.rows.take k1,z.a.res.val,z.a.res.fnd⟩,z.a.since,z.a.until_,z.a.base,z.a.ranges,z.a.recs⟩,_,_,_,_,_,_,_,_,_,_,_,[],⟨Uz (U _ _ _) k1 z.rc A0 A0,bf _ _,X _ _,{hB.up with rows:=by simp only [CI];omega}⟩,V,V⟩)
  refine A2<|Zv (Bg (n:=2) Y Y)<|AF Y<|Ad Y (fun k180=>?_) (fun k180=>?_);·
   have ht:=Um w1 3 AH;refine Zg<|Zh 10 C3 V rfl A4 Y<|Zl A5 Y ?_;refine BN (Ap (j:=1) LI A4 Y Y Fl)<|Zl A5 Y ?_
   (refine BN (Me Y Y ?_ rfl) ?_;(focus (omega)))
   refine Yi Y Y<|Zh 10 C3 V rfl A4 Y<|Xe (Zs A4 Y Y V (hi:=by(simp;done))) ?_;refine Z0<|Zn [2,4] ?_;refine A8<|FF (e:=[]) (h:=by exact ⟨⟨z.a.q,z.a.res,z.a.since+w1.tmod 3,z.a.until_,z.a.base,z.a.ranges,z.a.recs⟩,_,_,_,_,_,_,_,_,_,_,_,[],⟨U _ _ _,bf _ _,X _ _,{hB.up with since:=by(try simp only);omega}⟩,V,V⟩)
  refine A2<|Zv (Bg (n:=3) Y Y)<|AF Y<|Ad Y (fun k182=>?_) (fun k182=>?_);·
   have ht:=Um w1 3 AH;refine Zg<|Zh 11 C3 V rfl A4 Y<|Zl A5 Y ?_;refine BN (Ap (j:=1) LI A4 Y Y Fl)<|Zl A5 Y ?_
   (refine BN (Me Y Y ?_ rfl) ?_;(focus (omega)))
   refine Yi Y Y<|Zh 11 C3 V rfl A4 Y<|Xe (Zs A4 Y Y V (hi:=by(simp;done))) ?_;refine Z0<|Zn [2,4] ?_;refine A8<|FF (e:=[]) (h:=by exact ⟨⟨z.a.q,z.a.res,z.a.since,z.a.until_+w1.tmod 3,z.a.base,z.a.ranges,z.a.recs⟩,_,_,_,_,_,_,_,_,_,_,_,[],⟨U _ _ _,bf _ _,X _ _,{hB.up with end_:=by(try simp only);omega}⟩,V,V⟩)
  refine A2<|Zv (Bg (n:=4) Y Y)<|AN Y<|Zn [2,3,4,5,6,34,80] ?_;refine Zx<|Ad Y (fun k184=>?_) (fun k184=>?_);·
   have ht:=Um w1 3 AH;refine Zg<|Zh 12 C3 V rfl A4 Y<|Zl A5 Y ?_;refine BN (Ap (j:=1) LI A4 Y Y Fl)<|Zl A5 Y ?_
   (refine BN (Me Y Y ?_ rfl) ?_;(focus (omega)))
   refine Yi Y Y<|Zh 12 C3 V rfl A4 Y<|Xe (Zs A4 Y Y V (hi:=by(simp;done))) ?_;refine Z0<|A8<|FF (e:=[]) (h:=by exact ⟨⟨z.a.q,z.a.res,z.a.since,z.a.until_,z.a.base+w1.tmod 3,z.a.ranges,z.a.recs⟩,_,_,_,_,_,_,_,_,_,_,_,[],⟨U _ _ _,bf _ _,X _ _,{hB.up with base:=by(try simp only);omega}⟩,V,V⟩)
  refine A2<|Zv (Bg (n:=5) Y Y)<|AF Y<|Ad Y (fun k186=>?_) (fun k186=>?_);·
   refine Zg<|BN (Ap (j:=1) LI A4 Y Y Fl)<|Zl A5 Y ?_;refine BN (Ap (j:=2) LI A4 Y Y Fl)<|Zl A5 Y ?_;refine BN (Ap (j:=3) LI A4 Y Y Fl)<|Zl A5 Y ?_;refine BN (Ap (j:=1) LI A4 Y Y Fl)<|Zl A5 Y ?_;refine BN (Ap (j:=2) LI A4 Y Y Fl)<|Zl A5 Y ?_;refine Zv (BK (vs:=[(0,I4 w1),(1,I4 w2),(2,I4 w3),(3,I4 w1),(4,I4 w2)]) (cs:=#[I4 w1,I4 w2,I4 w3,I4 w1,I4 w2]) Y (DN zeroValue23 Up A4 AG))<|Zc [_] Y call27 Y V (oV w1 w2 w3 w1 w2 p8 p9 pg pq Gl Gw p8 p9 pg pq) ?_;rintro _ _ ⟨_,⟨q9,hq9,rfl,rfl⟩,rfl⟩;refine Zh 0 C3 rfl rfl CN Y<|Xe (Ao CN Y Y Ft Wu (by exact (rfl:_=(#[I4 q9.kd,I4 q9.tb,I4 q9.cl,I4 q9.lo,I4 q9.hi,I4 q9.bq,I4 q9.ot,.slice z.rp z.a.res.rows.length z.rc,I4 z.a.res.val,.bool z.a.res.fnd,I4 z.a.since,I4 z.a.until_,I4 z.a.base,.slice g1 Z.length c1,.slice g2 z.a.recs.length c2]:As))) DO BW (by exact Aw _)) ?_;refine Z0<|Zn [2,4] ?_;refine A8<|FF (e:=[]) (h:=by exact ⟨⟨q9,z.a.res,z.a.since,z.a.until_,z.a.base,z.a.ranges,z.a.recs⟩,_,_,_,_,_,_,_,_,_,_,_,[],⟨U _ _ _,bf _ _,X _ _,{hB.up with}⟩,V,V⟩)
  refine A2<|Zv (Bg (n:=6) Y Y)<|AF Y<|Ad Y (fun k188=>?_) (fun k188=>?_);focus
   refine A2<|Zh 14 C3 V rfl Kd Y<|Zl LS Y ?_;refine Zv (AJ G4 Y)<|Zv (CW (n:=0) Y Y)<|A6<|Ad Y (fun hn6=>?_) (fun hn6=>?_);have hnl:nn<z.a.recs.length:=by omega
   refine Au (n:=13) (0::1::0::0::15::0::32::0::128::480::1023::2047::4095::[]) 5120 AG AG V<|A1 0 V (AL (off:=14) C3 V rfl Kd Y)<|B6 1 V LS Y ?_;refine A1 2 V (AA Y)<|A1 3 V (AA Y)<|A1 4 V (Ey G4 Fk Y Y Y A0)<|A1 5 V (AL (off:=14) C3 V rfl Kd Y)<|B6 6 V LS Y ?_;refine A1 7 V (AA Y)<|A1 8 V (Ce (n:=1) Y Y A0)<|A1 9 V (Bv G4 Fk Y Y A0)<|Yw 10 2047 V (LX (by_:=32) (sz:=2) G4 (V:Tryz.prog.info? 78=some Tryz.t78) V rfl V rfl Y (Gd qa nn nn A0) Y (Ib qa (nn+1) (z.a.recs.length -(nn+1)) _ A0) Wo Wo A0 A0) ?_;rintro _ _ ⟨bx6,cx6,sx6,rfl,hlx6,hrx6,rfl⟩;have h6:∀s1,DD (s1++(P7++(sx6++M))) (.slice bx6 (nn+(z.a.recs.length -(nn+1))) cx6) (z.a.recs.take nn++z.a.recs.drop (nn+1)):=fun s1=>by
    rcases hrx6 with⟨h8,h9,rfl⟩|h9
    · injection h9 with e1 e2 e3
      rw [e1,e3,h8,List.drop_eq_nil_of_le A0,HT];exact oG (X _ _) nn nn A0 (B4 _)
    · have h8:=BJ (n':=(z.a.recs.take nn++z.a.recs.drop (nn+1)).length) (xs':=Dn (z.a.recs.take nn++z.a.recs.drop (nn+1))) h9 (by rw [C7,CI,D4];omega) (by rw [Oy];rw [(Qp z.a.recs nn).1,(Qp z.a.recs (nn+1)).2])
      exact EA (NG h8 (by rw [C7,CI,D4];omega) fun r hr=>oq r (by rcases GS.1 hr with h|h;exact Ks h;exact Lo h)) fun c hc=>by
       rcases GS.1 hc with h|h<;>simp [h]
   refine A1 11 V (AL (off:=14) C3 V rfl Kd Y)<|Zz (l:=[12])<|C6 [] [] V rfl (Zs Kd Y Y V (hi:=by(simp;done))) ?_ (fun _ _ h=>h.elim) Ar;rintro _ _ ⟨rfl,rfl⟩;refine CA<|Am<|Zn [2,4] ?_;refine A8<|FF (e:=[]) (h:=by exact ⟨⟨z.a.q,z.a.res,z.a.since,z.a.until_,z.a.base,z.a.ranges,z.a.recs.take nn++z.a.recs.drop (nn+1)⟩,_,_,_,_,_,_,_,_,_,_,_,_,⟨U _ _ _,bf _ _,h6 _,{hB.up with nc:=by simp only [C7,CI,D4];omega,cs:=fun x hx=>by rcases GS.1 hx with h|h;exact hB.cs x (Ks h);exact hB.cs x (Lo h)}⟩,rfl,rfl⟩)
  rotate_left
  focus
   refine A2<|Zv (Bg (n:=7) Y Y)<|AF Y<|Ad Y (fun k192=>?_) (fun k192=>?_);focus
    refine A2<|Zh 14 C3 V rfl Kd Y<|Zl LS Y ?_;refine Zv (AJ G4 Y)<|Zv (CW (n:=0) Y Y)<|A6<|Ad Y (fun hn7=>?_) (fun hn7=>?_);obtain ⟨gs,cs9,R9,zs,hvs,rfl,hcs,hss,hins,hfs⟩:=I1 qa A0;injection hvs with e1 _ e3
    subst e1 e3;obtain ⟨rk,hrk⟩:∃r,z.a.recs[nn]?=some r:=⟨_,Bk A0⟩;have hrc:=oq rk (Fm hrk)
    have hrcs:=hB.cs rk (Fm hrk);have zh:=hins (nn*2+1) (.slice rk.q rk.cs.length rk.cap) ((Wx hrk (by decide:1<2)).trans rfl)
    obtain ⟨_,cap7,e7,hl7m,_⟩:=id hrc;injection e7 with _ _ e73
    refine Au (n:=24) (0::1::0::0::8::0::56::120::248::0::512::0::2048::0::14336::30720::63488::129024::260096::523776::1048568::2097151::4194303::8388607::[]) 8912896 AG AG V<|A1 0 V (AL (off:=14) C3 V rfl Kd Y)<|B6 1 V LS Y ?_;refine A1 2 V (AA Y)<|A1 3 V (AL (off:=14) C3 V rfl Kd Y)<|B6 4 V LS Y ?_;refine A1 5 V (AA Y)<|A1 6 V (A9 G4 Fk Y Y A0)<|A1 7 V (Aj (off:=1) G3 V rfl ID Y)<|B6 8 V J0 Y (hv:=by(rw [Dd];exact zh)) ?_;refine A1 9 rfl (Ap (j:=3) LI A4 Y Y Fl)<|B6 10 rfl A5 Y ?_;refine A1 11 V (AL (off:=14) C3 V rfl Kd Y)<|B6 12 V LS Y ?_;refine A1 13 V (AA Y)<|A1 14 V (A9 G4 Fk Y Y A0)<|A1 15 V (Aj (off:=1) G3 V rfl ID Y)<|B6 16 V J0 Y (hv:=by(rw [Dd];exact zh)) ?_;refine A1 17 V (AJ GF Y)<|A1 18 V (Ce (n:=1) Y Y A0)<|Yz 19 523776 1048575 [16,12,10,8,4,1] [false,false,false,true,true,true] [(8,(_,_)),(4,(_,_)),(1,(_,_))] V Y V rfl V rfl (Zu [_,_] Y V2 Y V (Ma w3 (rk.cs.length+1) A0 A0 Gl Gw)) ?_;rintro _ _ ⟨rfl,rfl⟩;refine ⟨Zk (Zk (Zk (Ab))),?_⟩;obtain ⟨k7,zw⟩:∃k,k=CU w3 (rk.cs.length+1):=⟨_,rfl⟩;rw [<-zw];have hlk7:=Dp w3 (rk.cs.length+1) A0
    rw [<-zw]at hlk7;have h7:∀s1 s3,DD (s1++([(gs,.cells (R9.setIfInBounds (0+nn*2+1) (.slice rk.q k7 rk.cap)) 78 zs)]++(s3++M))) (I6 gs z.a.recs.length c2) (z.a.recs.set nn {rk with cs:=rk.cs.take k7}):=fun s1 s3=>by
     refine oJ (BJ (IJ qa (0+nn*2+1) (.slice rk.q k7 rk.cap)) (by rw [Hb]) ?_) (by rw [Hb];omega) fun r hr=>?_
     · rw [Dd]
       refine Ww hrk AH (b:={rk with cs:=rk.cs.take k7}) ?_;show [_,_]=[_,_]
       rw [CI,OR A0]
     · rcases bd hr with h|rfl
       · exact oq r h
       · have h8:=sJ hrc k7 rk.cap A0 A0
         show DJ M (.slice rk.q (rk.cs.take k7).length rk.cap) (rk.cs.take k7);rw [CI,OR A0];exact h8
    refine A1 20 V (Bb GF D2 Y Y A0)<|A1 21 V (A9 G4 Fk Y Y A0)<|A1 22 V (Aj (off:=1) G3 V rfl ID Y)<|Zz (l:=[23])<|C6 [false,false,false] [] V rfl (Zs ID Y Y V (hi:=by omega) (hz:=by exact hfs)) ?_ (fun _ _ h=>h.elim) Ar;rintro _ _ ⟨rfl,rfl⟩;refine CA<|Am<|Zn [2,4] ?_;refine A8<|FF (e:=[]) (h:=by exact ⟨⟨z.a.q,z.a.res,z.a.since,z.a.until_,z.a.base,z.a.ranges,z.a.recs.set nn {rk with cs:=rk.cs.take k7}⟩,_,_,_,_,_,_,_,_,_,_,_,[],⟨U _ _ _,bf _ _,h7 _ _,{hB.up with nc:=by rw [Hb];exact hb7,cs:=fun x hx=>by rcases bd hx with h|rfl;exact hB.cs x h;have h9:=hB.cs rk (Fm hrk);exact ⟨by simp only [CI];omega,by simp only [CI];omega⟩}⟩,rfl,rfl⟩)
   rotate_left
   focus
    refine A2<|Zv (Bg (n:=8) Y Y)<|AF Y<|Ad Y (fun k196=>?_) (fun k196=>?_);·
     refine Au (n:=12) (0::1::0::4::0::16::48::112::252::511::1023::2047::[]) 2304 AG AG V<|A1 0 V (AL (off:=13) C3 V rfl E0 Y)<|B6 1 V FG Y ?_;refine A1 2 rfl (Ap (j:=1) LI A4 Y Y Fl)<|B6 3 rfl A5 Y ?_;refine A1 4 V (AL (off:=13) C3 V rfl E0 Y)<|B6 5 V FG Y ?_;refine A1 6 V (AJ Ds Y)<|A1 7 V (Ce (n:=1) Y Y A0)<|Yz 8 252 511 [5,3,1] [false,false,true] [(1,(_,_))] V Y V rfl V rfl (Zu [_,_] Y V2 Y V (Ma w1 (Z.length+1) A0 A0 p8 p9)) ?_;rintro _ _ ⟨rfl,rfl⟩;refine ⟨Zk (Ab),?_⟩;obtain ⟨k8,zx⟩:∃k,k=CU w1 (Z.length+1):=⟨_,rfl⟩;rw [<-zx];have hlk8:=Dp w1 (Z.length+1) A0
     rw [<-zx]at hlk8;refine A1 9 V (Bb Ds DM Y Y A0)<|A1 10 V (AL (off:=13) C3 V rfl E0 Y)<|Zz (l:=[11])<|C6 [false] [] V rfl (Zs E0 Y Y V (hi:=by(simp;done))) ?_ (fun _ _ h=>h.elim) Ar;rintro _ _ ⟨rfl,rfl⟩;refine CA<|Am<|Zn [2,4] ?_;refine A8<|FF (e:=[]) (h:=by exact ⟨⟨z.a.q,z.a.res,z.a.since,z.a.until_,z.a.base,z.a.ranges.take k8,z.a.recs⟩,_,_,_,_,_,_,_,_,_,_,_,[],⟨U _ _ _,o5 (bf _ _) k8 c1 A0 A0,X _ _,{hB.up with nr:=by simp only [CI];omega,rg:=fun x hx=>(hB.rg x (Ks hx)).up}⟩,V,V⟩)
    focus
     refine A2<|Zv (Bg (n:=9) Y Y)<|AF Y<|Ad Y (fun k198=>?_) (fun k198=>?_);focus
      have ht:=Um w2 3 AH;refine A2<|Zh 13 C3 V rfl E0 Y<|Zl FG Y ?_;refine Zv (AJ Ds Y)<|Zv (CW (n:=0) Y Y)<|Z0<|Zn [2,3,4,5,169] ?_;refine Zx<|Ad Y (fun hn9=>?_) (fun hn9=>?_);obtain ⟨gr,cr,W,zr,d9,rfl,yt,zb,g,cu⟩:=I1 af A0;injection d9 with e1 _ e3
      subst e1 e3;obtain ⟨zk,m⟩:∃zk,Z[E]?=some zk:=⟨_,Bk A0⟩;have I:=K zk (Fm m)
      have o9:=K3 I.1;have hgb:=hB.rg zk.x (by rw [<-hZx];exact S0 (Fm m))
      have qo:=hgb.nr;have sw:=hgb.nt
      have qy:=g (E*9+4) _ ((Ct zc9 m (by decide:4<9)).trans rfl);have qz:=g (E*9+5) _ ((Ct zc9 m (by decide:5<9)).trans rfl)
      have bn:=g (E*9+6) _ ((Ct zc9 m (by decide:6<9)).trans rfl);have r9:=g (E*9+7) _ ((Ct zc9 m (by decide:7<9)).trans rfl)
      have qb:=g (E*9+8) _ ((Ct zc9 m (by decide:8<9)).trans rfl);refine Au (n:=16) (0::1::0::0::8::0::56::120::248::0::512::1536::4088::8191::16383::32767::[]) 32768 AG AG V<|A1 0 V (AL (off:=13) C3 V rfl E0 Y)<|B6 1 V FG Y ?_;refine A1 2 V (AA Y)<|A1 3 V (AL (off:=13) C3 V rfl E0 Y)<|B6 4 V FG Y ?_;refine A1 5 V (AA Y)<|A1 6 V (A9 Ds DM Y Y A0)<|A1 7 V (Aj (off:=5) Bm V rfl A4 Y)<|B6 8 V A5 Y (hv:=by(rw [Dd];exact qz)) ?_;refine A1 9 rfl (Ap (j:=2) LI A4 Y Y Fl)<|B6 10 rfl A5 Y ?_
      (refine Dr (D':=4095) 11 (Me Y Y ?_ rfl) ?_;(focus (first|omega|(have:=hgb.fi;omega))))
      (refine Dr (D':=8191) 12 (Fw Y Y (IntWalk.i64_in _ ?_)) ?_;(focus (first|omega|(have:=hgb.fi;omega))))
      refine A1 13 V (A9 Ds DM Y Y A0)<|A1 14 V (Aj (off:=5) Bm V rfl A4 Y)<|Zz (l:=[15])<|C6 [false,false,false,false] [] V rfl (Zs A4 Y Y V (hi:=by omega) (hz:=by exact cu)) ?_ (fun _ _ h=>h.elim) Ar;rintro _ _ ⟨rfl,rfl⟩;refine CA<|Am<|Zn [2,4] ?_;refine A8<|FF (e:=[]) (h:=by exact ⟨⟨z.a.q,z.a.res,z.a.since,z.a.until_,z.a.base,(Z.set E {zk with x:={zk.x with fi:=zk.x.fi+w2.tmod 3}}).map RPZ.x,z.a.recs⟩,_,_,_,_,_,_,_,_,_,_,_,[],⟨U _ _ _,Nu (BJ (IJ af (0+E*9+5) (I4 (zk.x.fi+w2.tmod 3))) (by rw [Hb]) (by rw [Dd];exact JG zc9 m AH (b:={zk with x:={zk.x with fi:=zk.x.fi+w2.tmod 3}}) rfl)) (by rw [Hb];omega) (Oo K (I.mono fun c hc=>hc)),X _ _,{hB.up with nr:=by have h:=hB.nr;rw [<-hZx]at h;simp only [C2,Hb]at h⊢;omega,rg:=Rv (by rw [hZx];exact hB.rg) {hgb.up with fi:=by have:=hgb.fi;simp only;omega}}⟩,rfl,rfl⟩)
     rotate_left
     focus
      refine A2<|Zv (Bg (n:=10) Y Y)<|AF Y<|Ad Y (fun k202=>?_) (fun k202=>?_);focus
       have ht:=Um w2 3 AH;refine A2<|Zh 13 C3 V rfl E0 Y<|Zl FG Y ?_;refine Zv (AJ Ds Y)<|Zv (CW (n:=0) Y Y)<|Z0<|Zn [2,3,4,5,190] ?_;refine Zx<|Ad Y (fun hn10=>?_) (fun hn10=>?_);obtain ⟨gr,cr,W,zr,d9,rfl,yt,zb,g,cu⟩:=I1 af A0;injection d9 with e1 _ e3
       subst e1 e3;obtain ⟨zk,m⟩:∃zk,Z[E]?=some zk:=⟨_,Bk A0⟩;have I:=K zk (Fm m)
       have o9:=K3 I.1;have hgb:=hB.rg zk.x (by rw [<-hZx];exact S0 (Fm m))
       have qo:=hgb.nr;have sw:=hgb.nt
       have qy:=g (E*9+4) _ ((Ct zc9 m (by decide:4<9)).trans rfl);have qz:=g (E*9+5) _ ((Ct zc9 m (by decide:5<9)).trans rfl)
       have bn:=g (E*9+6) _ ((Ct zc9 m (by decide:6<9)).trans rfl);have r9:=g (E*9+7) _ ((Ct zc9 m (by decide:7<9)).trans rfl)
       have qb:=g (E*9+8) _ ((Ct zc9 m (by decide:8<9)).trans rfl);refine Au (n:=16) (0::1::0::0::8::0::56::120::248::0::512::1536::4088::8191::16383::32767::[]) 32768 AG AG V<|A1 0 V (AL (off:=13) C3 V rfl E0 Y)<|B6 1 V FG Y ?_;refine A1 2 V (AA Y)<|A1 3 V (AL (off:=13) C3 V rfl E0 Y)<|B6 4 V FG Y ?_;refine A1 5 V (AA Y)<|A1 6 V (A9 Ds DM Y Y A0)<|A1 7 V (Aj (off:=4) Bm V rfl A4 Y)<|B6 8 V A5 Y (hv:=by(rw [Dd];exact qy)) ?_;refine A1 9 rfl (Ap (j:=2) LI A4 Y Y Fl)<|B6 10 rfl A5 Y ?_
       (refine Dr (D':=4095) 11 (Me Y Y ?_ rfl) ?_;(focus (first|omega|(have:=hgb.ct;omega))))
       (refine Dr (D':=8191) 12 (Fw Y Y (IntWalk.i64_in _ ?_)) ?_;(focus (first|omega|(have:=hgb.ct;omega))))
       refine A1 13 V (A9 Ds DM Y Y A0)<|A1 14 V (Aj (off:=4) Bm V rfl A4 Y)<|Zz (l:=[15])<|C6 [false,false,false,false] [] V rfl (Zs A4 Y Y V (hi:=by omega) (hz:=by exact cu)) ?_ (fun _ _ h=>h.elim) Ar;rintro _ _ ⟨rfl,rfl⟩;refine CA<|Am<|Zn [2,4] ?_;refine A8<|FF (e:=[]) (h:=by exact ⟨⟨z.a.q,z.a.res,z.a.since,z.a.until_,z.a.base,(Z.set E {zk with x:={zk.x with ct:=zk.x.ct+w2.tmod 3}}).map RPZ.x,z.a.recs⟩,_,_,_,_,_,_,_,_,_,_,_,[],⟨U _ _ _,Nu (BJ (IJ af (0+E*9+4) (I4 (zk.x.ct+w2.tmod 3))) (by rw [Hb]) (by rw [Dd];exact JG zc9 m AH (b:={zk with x:={zk.x with ct:=zk.x.ct+w2.tmod 3}}) rfl)) (by rw [Hb];omega) (Oo K (I.mono fun c hc=>hc)),X _ _,{hB.up with nr:=by have h:=hB.nr;rw [<-hZx]at h;simp only [C2,Hb]at h⊢;omega,rg:=Rv (by rw [hZx];exact hB.rg) {hgb.up with ct:=by have:=hgb.ct;simp only;omega}}⟩,rfl,rfl⟩)
      rotate_left
      focus
       refine A2<|Zv (Bg (n:=11) Y Y)<|AN Y<|Zn [2,3,4,5,34,206] ?_;refine Zx<|Ad Y (fun k206=>?_) (fun k206=>?_);focus
        refine A2<|Zh 13 C3 V rfl E0 Y<|Zl FG Y ?_;refine Zv (AJ Ds Y)<|Zv (CW (n:=0) Y Y)<|Zm Y<|AZ (t:=212) Y V (fun hn11=>?_) (fun hn11=>?_);focus
         obtain ⟨gr,cr,W,zr,d9,rfl,yt,zb,g,cu⟩:=I1 af A0;injection d9 with e1 _ e3
         subst e1 e3;obtain ⟨zk,m⟩:∃zk,Z[E]?=some zk:=⟨_,Bk A0⟩;have I:=K zk (Fm m)
         have o9:=K3 I.1;have hgb:=hB.rg zk.x (by rw [<-hZx];exact S0 (Fm m))
         have qo:=hgb.nr;have sw:=hgb.nt
         have qy:=g (E*9+4) _ ((Ct zc9 m (by decide:4<9)).trans rfl);have qz:=g (E*9+5) _ ((Ct zc9 m (by decide:5<9)).trans rfl)
         have bn:=g (E*9+6) _ ((Ct zc9 m (by decide:6<9)).trans rfl);have r9:=g (E*9+7) _ ((Ct zc9 m (by decide:7<9)).trans rfl)
         have qb:=g (E*9+8) _ ((Ct zc9 m (by decide:8<9)).trans rfl);refine Yf 13 C3 V rfl E0 Y<|Yl FG Y ?_;refine Zf Y Y ?_
         (refine ER Y (A9 Ds DM Y Y ?_) rfl rfl ?_;(focus (omega)))
         refine Yg (Aj (off:=6) Bm V rfl Cl Y)<|Yl DQ Y (hv:=by(rw [Dd];exact bn)) ?_;refine Yg (AJ B0 Y)<|Yg (CW (n:=0) Y Y)<|HR Y Y<|Z0<|Zn [2,3,4,5,221] ?_;refine Zx<|Ad Y (fun hm11=>?_) (fun hm11=>?_);refine Zq<|Au (n:=11) (0::1::0::4::0::28::60::124::252::511::1023::[]) 512 AG AG rfl<|A1 0 rfl (Ap (j:=2) LI A4 Y Y Fl)<|B6 1 rfl A5 Y ?_;refine A1 2 V (AL (off:=13) C3 V rfl E0 Y)<|B6 3 V FG Y ?_;refine A1 4 V (AA Y)<|A1 5 V (A9 Ds DM Y Y A0)<|A1 6 V (Aj (off:=6) Bm V rfl Cl Y)<|B6 7 V DQ Y (hv:=by(rw [Dd];exact bn)) ?_;refine A1 8 V (AJ B0 Y)<|Zz (l:=[9])<|C6 [false,false,false] [] V rfl (Zu [_,_] Y V2 Y V (Ma w2 zk.x.rows.length A0 (by have:=hgb.nr;omega) pg pq)) ?_ (fun _ _ h=>h.elim) Ar;rintro _ _ ⟨rfl,rfl⟩;refine ⟨Ab,?_⟩;obtain ⟨gy,vo⟩:∃k,k=CU w2 zk.x.rows.length:=⟨_,rfl⟩;rw [<-vo];have M3:=Dp w2 zk.x.rows.length A0
         rw [<-vo]at M3;refine A1 10 V (Aq Y)<|Am<|Zx<|Zq<|Au (n:=26) (0::1::0::0::0::16::0::112::240::496::0::2032::4088::0::8192::0::57344::122880::253952::0::524288::2088960::4194296::8388607::16777215::33554431::[]) 37752840 AG AG V<|A1 0 V (AL (off:=13) C3 V rfl E0 Y)<|B6 1 V FG Y ?_;refine A1 2 V (AA Y)<|A1 4 V (AL (off:=13) C3 V rfl E0 Y)<|B6 5 V FG Y ?_;refine A1 6 V (AA Y)<|A1 7 V (A9 Ds DM Y Y A0)<|A1 8 V (Aj (off:=6) Bm V rfl Cl Y)<|B6 9 V DQ Y (hv:=by(rw [Dd];exact bn)) ?_;refine A1 10 V (AA Y)<|A1 11 V (Bb B0 AW Y Y A0)<|A1 13 V (AL (off:=13) C3 V rfl E0 Y)<|B6 14 V FG Y ?_;refine A1 15 V (AA Y)<|A1 16 V (A9 Ds DM Y Y A0)<|A1 17 V (Aj (off:=6) Bm V rfl Cl Y)<|B6 18 V DQ Y (hv:=by(rw [Dd];exact bn)) ?_;refine A1 19 V (AA Y)<|A1 20 V (Ce (n:=1) Y Y A0)<|A1 21 V (Bv B0 AW Y Y A0)<|Yz 3 0 4190207 [18,14,9,5,1] [true,true,true,true,true] [(18,(_,_)),(14,(_,_)),(9,(_,_)),(5,(_,_)),(1,(_,_))] V Y V rfl V rfl (EM B0 AW)<|AE fun Rl=>CA<|Yz 12 4088 4194303 [18,14,9,5,1] [true,true,false,false,true] [(18,(_,_)),(14,(_,_)),(1,(_,_))] rfl Y rfl rfl rfl rfl (G6 (by_:=40) (sz:=5) B0 (rfl:Tryz.prog.info? 91=some Tryz.t91) rfl rfl rfl rfl Y (En 5 91 Rl 0 [] rfl AH) Y (KO (Uz I.1 gy zk.cr A0 (by have:=K3 I.1;omega))) (by rw [BG,CI];omega) AH Wo Wo (by exact CK _) A0 A0) ?_;rintro _ _ ⟨sd1,wo,rfl⟩;refine ⟨Zk (Zk (Zk (Ab))),?_⟩;have qo:=hgb.nr
         replace wo:=BJ (n':=gy) wo A0 (ON _);refine Yz 22 4194296 8388607 [18,14,1] [false,false,true] [(1,(_,_))] rfl Y rfl rfl rfl rfl (G6 (by_:=40) (sz:=5) B0 (rfl:Tryz.prog.info? 91=some Tryz.t91) rfl rfl rfl rfl Y (wo) Y (KO (bW I.1 (gy+1) A0)) (by rw [BG,D4]) AH Wo Wo (by exact CK _) A0 A0) ?_;rintro _ _ ⟨Pn,lv,rfl⟩;refine ⟨Zk (Ab),?_⟩;obtain ⟨rs,P5⟩:∃l,l=zk.x.rows.take gy++zk.x.rows.drop (gy+1):=⟨_,rfl⟩;have hrsl:rs.length=gy+(zk.x.rows.length -(gy+1)):=by rw [P5,C7,CI,D4];omega
         replace lv:=BJ (n':=rs.length) (xs':=Aa rs) lv hrsl.symm (by rw [P5,BR]);obtain ⟨gd,cd,rfl⟩:=lv.form;obtain ⟨J,G⟩:∃c,W.setIfInBounds (0+E*9+6) (.slice gd rs.length cd)=c:=⟨_,rfl⟩;have x9:J.size=W.size:=by rw [<-G,fh]
         have W9:J[0+E*9+7]?=some (.slice zk.qp zk.x.paths.length zk.cp):=by rw [<-G,Array.getElem?_setIfInBounds_ne A0,Dd];exact r9
         have za:J[0+E*9+6]?=some (.slice gd rs.length cd):=by rw [<-G];exact WY A0
         obtain ⟨O,ax⟩:∃z:RPZ,z={zk with x:={zk.x with rows:=rs},qr:=gd,cr:=cd}:=⟨_,rfl⟩;have h11:BS 9 49 (I6 gr Z.length c1) (Z.set E O).length ((Z.set E O).flatMap ET) [(gr,.cells J 49 zr)]:=by rw [<-G];exact BJ (IJ af (0+E*9+6) _) (by rw [Hb]) (by rw [Dd];exact JG zc9 m AH (b:=O) (by rw [ax];rfl))
         have cO:O.ok (Pn++M):=by rw [ax];exact ⟨(Ca lv A0).mono fun c hc=>HE _ hc,I.2.1.mono fun c hc=>G2 _ hc,I.2.2.mono fun c hc=>G2 _ hc⟩
         have zl:RgB O.x (n+1):=by rw [ax];exact {hgb.up with nr:=by(try simp only);omega,rv:=fun r hr=>hgb.up.rv r (by simp only [P5]at hr;rcases GS.1 hr with h|h;exact Ks h;exact Lo h)}
         have hx11:(Z.set E O)[E]?=some O:=by rw [List.getElem?_set_self A0]
         refine A1 23 V (A9 Ds DM Y Y A0)<|A1 24 V (Aj (off:=6) Bm V rfl Cl Y)<|Zz (l:=[25])<|C6 [false] [] V rfl (Zs Cl Y Y V (hc:=by exact G) (hi:=by omega) (hz:=by exact cu)) ?_ (fun _ _ h=>h.elim) Ar;rintro _ _ ⟨rfl,rfl⟩;refine CA<|Am<|Zn [2,4,5] ?_;refine Zx ?_;obtain ⟨kp,hkp⟩:∃k,k=min zk.x.paths.length rs.length:=⟨_,rfl⟩;have hkl:kp<=zk.x.paths.length:=by omega
         obtain ⟨pt,hpt⟩:∃l,l=zk.x.paths.take kp:=⟨_,rfl⟩;have zm:pt.length=kp:=by rw [hpt,CI];omega
         have hle7:=kM I.2.1;obtain ⟨Ps,sj⟩:∃c,J.setIfInBounds (0+E*9+7) (.slice zk.qp (min zk.x.paths.length rs.length) zk.cp)=c:=⟨_,rfl⟩;obtain ⟨kv,y5⟩:∃z:RPZ,z={O with x:={O.x with paths:=pt}}:=⟨_,rfl⟩;have h12:BS 9 49 (I6 gr Z.length c1) ((Z.set E O).set E kv).length (((Z.set E O).set E kv).flatMap ET) [(gr,.cells Ps 49 zr)]:=by rw [<-sj];exact BJ (IJ (BJ (n':=Z.length) h11 (by rw [Hb]) rfl) (0+E*9+7) _) (by rw [Hb,Hb]) (by rw [Dd];exact JG zc9 hx11 AH (b:=kv) (by rw [<-hkp,<-zm,y5,ax];rfl))
         have ML:∀y∈(Z.set E O).set E kv,y.ok (Pn++M):=fun y hy=>by
          rcases bd hy with h|rfl
          · exact Oo K cO y h
          · rw [y5]
            refine ⟨cO.1,?_,cO.2.2⟩;have h9:=dN (cO.2.1) kp O.cp (by rw [ax];exact hkl) (by rw [ax];show kp<=zk.cp;omega)
            show GG (Pn++M) (.slice O.qp pt.length O.cp) pt;rw [zm];rw [ax]at h9⊢;rw [hpt];exact h9
         have hg12:RgB kv.x (n+1):=by rw [y5];exact {zl with np:=by have:=hgb.np;simp only;omega,pl:=fun l hl=>hgb.pl l (by simp only [hpt]at hl;exact Ks hl)}
         have hrg12:∀x∈((Z.set E O).set E kv).map RPZ.x,RgB x (n+1):=fun x hx=>by
          obtain ⟨y,hy,rfl⟩:=HX.1 hx;rcases bd hy with h|rfl
          · exact Rv (by rw [hZx];exact hB.rg) zl _ (S0 h)
          · exact hg12
         refine Au (n:=28) (0::1::0::0::8::0::56::120::248::0::512::0::3584::7680::15872::32256::0::65536::0::458752::983040::2031616::4128768::8388096::16777208::33554431::67108863::134217727::[]) 134217728 AG AG V<|A1 0 V (AL (off:=13) C3 V rfl E0 Y)<|B6 1 V FG Y ?_;refine A1 2 V (AA Y)<|A1 3 V (AL (off:=13) C3 V rfl E0 Y)<|B6 4 V FG Y ?_;refine A1 5 V (AA Y)<|A1 6 V (A9 Ds DM Y Y A0)<|A1 7 V (Aj (off:=7) Bm V rfl Mn Y)<|B6 8 V Q1 Y (hv:=by exact W9) ?_;refine A1 9 V (AL (off:=13) C3 V rfl E0 Y)<|B6 10 V FG Y ?_;refine A1 11 V (AA Y)<|A1 12 V (A9 Ds DM Y Y A0)<|A1 13 V (Aj (off:=7) Bm V rfl Mn Y)<|B6 14 V Q1 Y (hv:=by exact W9) ?_;refine A1 15 V (AJ LR Y)<|A1 16 V (AL (off:=13) C3 V rfl E0 Y)<|B6 17 V FG Y ?_;refine A1 18 V (AA Y)<|A1 19 V (A9 Ds DM Y Y A0)<|A1 20 V (Aj (off:=6) Bm V rfl Cl Y)<|B6 21 V DQ Y (hv:=by exact za) ?_;refine A1 22 V (AJ B0 Y)<|A1 23 V (L8 Y Y)<|A1 24 V (Bb LR Hj Y Y A0)<|A1 25 V (A9 Ds DM Y Y A0)<|A1 26 V (Aj (off:=7) Bm V rfl Mn Y)<|Zz (l:=[27])<|C6 [false,false,false,false,false,false,false] [] V rfl (Zs Mn Y Y V (hc:=by exact sj) (hi:=by omega) (hz:=by(rw [x9];exact cu))) ?_ (fun _ _ h=>h.elim) Ar;rintro _ _ ⟨rfl,rfl⟩;refine CA<|Am<|Zn [2,4] ?_;refine A8<|FF (e:=[]) (h:=by exact ⟨⟨z.a.q,z.a.res,z.a.since,z.a.until_,z.a.base,((Z.set E O).set E kv).map RPZ.x,z.a.recs⟩,_,_,_,_,_,_,_,_,_,_,_,_,⟨U _ _ _,Nu h12 (by rw [Hb,Hb];omega) ML,X _ _,{hB.up with nr:=by have h:=hB.nr;rw [<-hZx]at h;simp only [C2,Hb]at h⊢;omega,rg:=hrg12}⟩,rfl,rfl⟩)
        rotate_left
        focus
         refine Sk 9 V<|Z0<|Zn [2,3,4,5,221] ?_;refine Zx<|DY Y ?_
       rotate_left 2
       focus
        refine A2<|Zv (Bg (n:=12) Y Y)<|AF Y<|Ad Y (fun k212=>?_) (fun k212=>?_);focus
         refine A2<|Zh 13 C3 V rfl E0 Y<|Zl FG Y ?_;refine Zv (AJ Ds Y)<|Zv (CW (n:=0) Y Y)<|Zm Y<|AZ (t:=290) Y V (fun hn12=>?_) (fun hn12=>?_);focus
          obtain ⟨gr,cr,W,zr,d9,rfl,yt,zb,g,cu⟩:=I1 af A0;injection d9 with e1 _ e3
          subst e1 e3;obtain ⟨zk,m⟩:∃zk,Z[E]?=some zk:=⟨_,Bk A0⟩;have I:=K zk (Fm m)
          have o9:=K3 I.1;have hgb:=hB.rg zk.x (by rw [<-hZx];exact S0 (Fm m))
          have qo:=hgb.nr;have sw:=hgb.nt
          have qy:=g (E*9+4) _ ((Ct zc9 m (by decide:4<9)).trans rfl);have qz:=g (E*9+5) _ ((Ct zc9 m (by decide:5<9)).trans rfl)
          have bn:=g (E*9+6) _ ((Ct zc9 m (by decide:6<9)).trans rfl);have r9:=g (E*9+7) _ ((Ct zc9 m (by decide:7<9)).trans rfl)
          have qb:=g (E*9+8) _ ((Ct zc9 m (by decide:8<9)).trans rfl);refine Yf 13 C3 V rfl E0 Y<|Yl FG Y ?_;refine Zf Y Y ?_
          (refine ER Y (A9 Ds DM Y Y ?_) rfl rfl ?_;(focus (omega)))
          refine Yg (Aj (off:=6) Bm V rfl Cl Y)<|Yl DQ Y (hv:=by(rw [Dd];exact bn)) ?_;refine Yg (AJ B0 Y)<|Yg (CW (n:=0) Y Y)<|HR Y Y<|Z0<|Zn [2,3,4,5,299] ?_;refine Zx<|Ad Y (fun hm12=>?_) (fun hm12=>?_);refine Zq<|Au (n:=14) (0::1::0::0::0::16::0::112::240::496::1016::2047::4095::8191::[]) 9224 AG AG V<|A1 0 V (AL (off:=13) C3 V rfl E0 Y)<|B6 1 V FG Y ?_;refine A1 2 V (AA Y)<|A1 4 V (AL (off:=13) C3 V rfl E0 Y)<|B6 5 V FG Y ?_;refine A1 6 V (AA Y)<|A1 7 V (A9 Ds DM Y Y A0)<|A1 8 V (Aj (off:=6) Bm V rfl Cl Y)<|B6 9 V DQ Y (hv:=by(rw [Dd];exact bn)) ?_;refine Yz 3 0 1023 [9,5,1] [true,true,true] [(9,(_,_)),(5,(_,_)),(1,(_,_))] V Y V rfl V rfl (EM B0 AW)<|AE fun S9=>CA<|Yz 10 1016 2047 [9,5,1] [false,false,true] [(1,(_,_))] V Y V rfl V rfl (G6 (by_:=40) (sz:=5) B0 (V:Tryz.prog.info? 91=some Tryz.t91) V rfl V rfl Y (En 5 91 S9 0 [] V AH) Y (KO I.1) (by exact BG _) AH Wo Wo (by exact CK _) (by have:=hgb.nr;omega) (by have:=hgb.nr;omega)) ?_;rintro _ _ ⟨sd3,mR,rfl⟩;refine ⟨Zk (Ab),?_⟩;have qo:=hgb.nr
          replace mR:=BJ (n':=zk.x.rows.length) mR A0 (ON _);obtain ⟨g5,c5,Qd,zz5,rfl,rfl,hc59,hs5,hin5,hf5⟩:=I1 mR A0;obtain ⟨J,G⟩:∃c,W.setIfInBounds (0+E*9+6) (I6 g5 zk.x.rows.length c5)=c:=⟨_,rfl⟩;have x9:J.size=W.size:=by rw [<-G,fh]
          have za:J[0+E*9+6]?=some (I6 g5 zk.x.rows.length c5):=by rw [<-G];exact WY A0
          refine A1 11 V (A9 Ds DM Y Y A0)<|A1 12 V (Aj (off:=6) Bm V rfl Cl Y)<|Zz (l:=[13])<|C6 [false] [] V rfl (Zs Cl Y Y V (hc:=by exact G) (hi:=by omega) (hz:=by exact cu)) ?_ (fun _ _ h=>h.elim) Ar;rintro _ _ ⟨rfl,rfl⟩;refine CA<|Am<|Zn [2,3,4,5] ?_;refine Zx<|Au (n:=28) (0::1::0::7::15::31::0::64::0::256::0::1792::3840::7936::16128::32704::0::65536::262080::65535::589823::2097151::4194303::8388607::65535::16842751::67108863::134217727::[]) 134512640 AG AG V<|A1 0 V (AL (off:=13) C3 V rfl E0 Y)<|B6 1 V FG Y ?_;refine A1 2 V (AA Y)<|A1 3 V (A9 Ds DM Y Y A0)<|A1 4 V (Aj (off:=6) Bm V rfl Cl Y)<|B6 5 V DQ Y (hv:=by exact za) ?_;refine A1 6 rfl (Ap (j:=2) LI A4 Y Y (by first|omega|(simp;omega)))<|B6 7 rfl A5 Y ?_;refine A1 8 V (AL (off:=13) C3 V rfl E0 Y)<|B6 9 V FG Y ?_;refine A1 10 V (AA Y)<|A1 11 V (A9 Ds DM Y Y A0)<|A1 12 V (Aj (off:=6) Bm V rfl Cl Y)<|B6 13 V DQ Y (hv:=by exact za) ?_;refine A1 14 rfl (AJ B0 Y)<|A1 16 rfl (Ap (j:=3) LI A4 Y Y (by first|omega|(simp;omega)))<|B6 17 rfl A5 Y ?_;refine Yz 15 32704 262143 [17,13,9,7,5,1] [true,false,false,false,true,true] [(17,(_,_)),(5,(_,_)),(1,(_,_))] V Y V rfl V rfl (Zu [_,_] Y V2 Y V (Ma w2 zk.x.rows.length A0 A0 pg pq)) ?_;rintro _ _ ⟨rfl,rfl⟩;refine ⟨Zk (Zk (Zk (Ab))),?_⟩;obtain ⟨i12,sO⟩:∃k,k=CU w2 zk.x.rows.length:=⟨_,rfl⟩;rw [<-sO];have Hf:=Dp w2 zk.x.rows.length A0
          rw [<-sO]at Hf;refine A1 19 V (A9 B0 AW Y Y A0)<|A1 20 V (Aj (off:=2) F1 V rfl Dg Y)<|A1 24 V (A9 B0 AW Y Y A0)<|A1 25 V (Aj (off:=2) F1 V rfl Dg Y)<|Zz (l:=[18])<|C6 [false,true,true] [(5,(_,_)),(1,(_,_))] V rfl (Zu [_,_] Y V2 Y V (Ma w3 3 AH AH Gl Gw)) ?_ (fun _ _ h=>h.elim) Ar;rintro _ _ ⟨rfl,rfl⟩;refine ⟨Zk (Zk (Ab)),?_⟩;obtain ⟨j12,ve⟩:∃k,k=CU w3 3:=⟨_,rfl⟩;rw [<-ve];have ek:=Dp w3 3 AH
          rw [<-ve]at ek;obtain ⟨r12,vz⟩:∃r,zk.x.rows[i12]?=some r:=⟨_,Bk A0⟩;have hv12:=hgb.rv r12 (Fm vz)
          have hvj:-(1000000000+(n:Int))<=bF r12 j12/\bF r12 j12<=1000000000+(n:Int):=by unfold bF;split;exact hv12.1;split;exact hv12.2.1;exact hv12.2.2
          have Tx:=hin5 (i12*5+(2+j12)) _ ((KR vz (2+j12) A0).trans (jM r12 ek));rw [<-cF]at Tx;obtain ⟨qw,gm⟩:∃z:RPZ,z={zk with x:={zk.x with rows:=zk.x.rows.set i12 (Nq r12 j12)},qr:=some ⟨g5,0,none⟩,cr:=c5}:=⟨_,rfl⟩;have h13:BS 9 49 (I6 gr Z.length c1) (Z.set E qw).length ((Z.set E qw).flatMap ET) [(gr,.cells J 49 zr)]:=by rw [<-G];exact BJ (IJ af (0+E*9+6) _) (by rw [Hb]) (by rw [Dd];exact JG zc9 m AH (b:=qw) (by rw [gm];unfold ET;simp only [Hb];rfl))
          have hz13:qw.ok ([(g5,.cells (Qd.setIfInBounds (0+i12*5+2+j12*1) (I4 (bF r12 j12+1))) 91 zz5)]++M):=by
           rw [gm];refine ⟨?_,I.2.1.mono fun c hc=>G2 _ hc,I.2.2.mono fun c hc=>G2 _ hc⟩;exact (Ca (BJ (n':=(zk.x.rows.set i12 (Nq r12 j12)).length) (IJ mR (0+i12*5+2+j12*1) (I4 (bF r12 j12+1))) (by rw [Hb]) (by rw [Dd,MA,cF];exact Wl vz A0 (fV r12 ek))) (by rw [Hb];omega)).mono (fun c hc=>HE _ hc)|>fun h=>by simpa only [Hb]using h
          have hg13:RgB qw.x (n+1):=by rw [gm];exact {hgb.up with nr:=by simp only [Hb];omega,rv:=fun r hr=>by rcases bd hr with h|rfl;exact hgb.up.rv r h;exact wL _ hv12}
          refine A1 21 rfl (Cf HS A4 Y Y (by first|omega|(simp;omega)))<|B6 22 rfl A5 Y (hv:=by(rw [Dd,MA];exact Tx)) ?_
          (refine Dr (D':=67108863) 23 (Fw Y Y (IntWalk.i64_in _ ?_)) ?_;(focus (omega)))
          refine A1 26 rfl (Cf HS A4 Y Y (by first|omega|(simp;omega)))<|Yw 27 268435455 rfl (Zs A4 Y Y rfl (hi:=by omega) (hz:=by exact hf5))<|DA<|Am<|Zn [2,4] ?_;refine A8<|FF (e:=[]) (h:=by exact ⟨⟨z.a.q,z.a.res,z.a.since,z.a.until_,z.a.base,(Z.set E qw).map RPZ.x,z.a.recs⟩,_,_,_,_,_,_,_,_,_,_,_,_,⟨U _ _ _,Nu h13 (by rw [Hb];omega) (Oo K hz13),X _ _,{hB.up with nr:=by have h:=hB.nr;rw [<-hZx]at h;simp only [C2,Hb]at h⊢;omega,rg:=Rv (by rw [hZx];exact hB.rg) hg13}⟩,rfl,rfl⟩)
         rotate_left
         focus
          refine Sk 9 V<|Z0<|Zn [2,3,4,5,299] ?_;refine Zx<|DY Y ?_
        rotate_left 2
        focus
         refine A2<|Zv (Bg (n:=13) Y Y)<|AF Y<|Ad Y (fun k217=>?_) (fun k217=>?_);focus
          refine A2<|Zh 13 C3 V rfl E0 Y<|Zl FG Y ?_;refine Zv (AJ Ds Y)<|Zv (CW (n:=0) Y Y)<|Zm Y<|AZ (t:=346) Y V (fun hn13=>?_) (fun hn13=>?_);focus
           obtain ⟨gr,cr,W,zr,d9,rfl,yt,zb,g,cu⟩:=I1 af A0;injection d9 with e1 _ e3
           subst e1 e3;obtain ⟨zk,m⟩:∃zk,Z[E]?=some zk:=⟨_,Bk A0⟩;have I:=K zk (Fm m)
           have o9:=K3 I.1;have hgb:=hB.rg zk.x (by rw [<-hZx];exact S0 (Fm m))
           have qo:=hgb.nr;have sw:=hgb.nt
           have qy:=g (E*9+4) _ ((Ct zc9 m (by decide:4<9)).trans rfl);have qz:=g (E*9+5) _ ((Ct zc9 m (by decide:5<9)).trans rfl)
           have bn:=g (E*9+6) _ ((Ct zc9 m (by decide:6<9)).trans rfl);have r9:=g (E*9+7) _ ((Ct zc9 m (by decide:7<9)).trans rfl)
           have qb:=g (E*9+8) _ ((Ct zc9 m (by decide:8<9)).trans rfl);refine Yf 13 C3 V rfl E0 Y<|Yl FG Y ?_;refine Zf Y Y ?_
           (refine ER Y (A9 Ds DM Y Y ?_) rfl rfl ?_;(focus (omega)))
           refine Yg (Aj (off:=8) Bm V rfl Hj Y)<|Yl Iv Y (hv:=by(rw [Dd];exact qb)) ?_;refine Yg (AJ DB Y)<|Yg (CW (n:=0) Y Y)<|HR Y Y<|Z0<|Zn [2,3,4,5,355] ?_;refine Zx<|Ad Y (fun hm13=>?_) (fun hm13=>?_);refine Zq<|Au (n:=14) (0::1::0::0::0::16::0::112::240::496::1016::2047::4095::8191::[]) 9224 AG AG V<|A1 0 V (AL (off:=13) C3 V rfl E0 Y)<|B6 1 V FG Y ?_;refine A1 2 V (AA Y)<|A1 4 V (AL (off:=13) C3 V rfl E0 Y)<|B6 5 V FG Y ?_;refine A1 6 V (AA Y)<|A1 7 V (A9 Ds DM Y Y A0)<|A1 8 V (Aj (off:=8) Bm V rfl Hj Y)<|B6 9 V Iv Y (hv:=by(rw [Dd];exact qb)) ?_;refine Yz 3 0 1023 [9,5,1] [true,true,true] [(9,(_,_)),(5,(_,_)),(1,(_,_))] V Y V rfl V rfl (EM DB F2)<|AE fun Ta=>CA<|Yz 10 1016 2047 [9,5,1] [false,false,true] [(1,(_,_))] rfl Y rfl rfl rfl rfl (G6 (by_:=16) (sz:=1) DB (rfl:Tryz.prog.info? 9=some Tryz.t9) rfl rfl rfl rfl Y (En 1 9 Ta 0 [] rfl AH) Y (Xx I.2.2) (by rw [C2];omega) AH Wo Wo (by exact nO _) (by have:=hgb.nt;omega) (by have:=hgb.nt;omega)) ?_;rintro _ _ ⟨sd4,o8,rfl⟩;refine ⟨Zk (Ab),?_⟩;have sw:=hgb.nt
           replace o8:=BJ (n':=zk.x.roots.length) o8 A0 (ON _);obtain ⟨g6,c6,Qe,zz6,rfl,rfl,hc69,hs6,hin6,hf6⟩:=I1 o8 A0;obtain ⟨J,G⟩:∃c,W.setIfInBounds (0+E*9+8) (I6 g6 zk.x.roots.length c6)=c:=⟨_,rfl⟩;have x9:J.size=W.size:=by rw [<-G,fh]
           have hd8:J[0+E*9+8]?=some (I6 g6 zk.x.roots.length c6):=by rw [<-G];exact WY A0
           refine A1 11 V (A9 Ds DM Y Y A0)<|A1 12 V (Aj (off:=8) Bm V rfl Hj Y)<|Zz (l:=[13])<|C6 [false] [] V rfl (Zs Hj Y Y V (hc:=by exact G) (hi:=by omega) (hz:=by exact cu)) ?_ (fun _ _ h=>h.elim) Ar;rintro _ _ ⟨rfl,rfl⟩;refine CA<|Am<|Zn [2,3,4,5] ?_;refine Zx<|Au (n:=18) (0::1::0::7::15::31::0::64::0::256::0::1792::3840::7936::16128::32704::65535::131071::[]) 163840 AG AG V<|A1 0 V (AL (off:=13) C3 V rfl E0 Y)<|B6 1 V FG Y ?_;refine A1 2 V (AA Y)<|A1 3 V (A9 Ds DM Y Y A0)<|A1 4 V (Aj (off:=8) Bm V rfl Hj Y)<|B6 5 V Iv Y (hv:=by exact hd8) ?_;refine A1 6 rfl (Ap (j:=2) LI A4 Y Y (by first|omega|(simp;omega)))<|B6 7 rfl A5 Y ?_;refine A1 8 V (AL (off:=13) C3 V rfl E0 Y)<|B6 9 V FG Y ?_;refine A1 10 V (AA Y)<|A1 11 V (A9 Ds DM Y Y A0)<|A1 12 V (Aj (off:=8) Bm V rfl Hj Y)<|B6 13 V Iv Y (hv:=by exact hd8) ?_;refine A1 14 V (AJ DB Y)<|Zz (l:=[15])<|C6 [false,false,false,true,true] [(5,(_,_)),(1,(_,_))] V rfl (Zu [_,_] Y V2 Y V (Ma w2 zk.x.roots.length A0 A0 pg pq)) ?_ (fun _ _ h=>h.elim) Ar;rintro _ _ ⟨rfl,rfl⟩;refine ⟨Zk (Zk (Ab)),?_⟩;obtain ⟨i13,tT⟩:∃k,k=CU w2 zk.x.roots.length:=⟨_,rfl⟩;rw [<-tT];have HZ:=Dp w2 zk.x.roots.length A0
           rw [<-tT]at HZ;obtain ⟨qx,gq⟩:∃z:RPZ,z={zk with x:={zk.x with roots:=zk.x.roots.set i13 [120]},qt:=some ⟨g6,0,none⟩,ct:=c6}:=⟨_,rfl⟩;have h14:BS 9 49 (I6 gr Z.length c1) (Z.set E qx).length ((Z.set E qx).flatMap ET) [(gr,.cells J 49 zr)]:=by rw [<-G];exact BJ (IJ af (0+E*9+8) _) (by rw [Hb]) (by rw [Dd];exact JG zc9 m AH (b:=qx) (by rw [gq];unfold ET;simp only [Hb];rfl))
           have hz14:qx.ok ([(g6,.cells (Qe.setIfInBounds i13 (EF [120])) 9 zz6)]++M):=by
            rw [gq];refine ⟨I.1.mono fun c hc=>G2 _ hc,I.2.1.mono fun c hc=>G2 _ hc,?_⟩;exact (Ev (BJ (n':=(zk.x.roots.set i13 [120]).length) (IJ o8 i13 (EF [120])) (by rw [Hb]) (by rw [List.map_set])) (by rw [Hb];omega)).mono (fun c hc=>HE _ hc)|>fun h=>by simpa only [Hb]using h
           have hg14:RgB qx.x (n+1):=by rw [gq];exact {hgb.up with nt:=by simp only [Hb];omega,rl:=fun s hs=>by rcases bd hs with h|rfl;exact hgb.rl s h;decide}
           refine A1 16 rfl (BI DB F2 Y Y (by first|omega|(simp;omega)))<|Yw 17 262143 rfl (Zs F2 Y Y rfl (hi:=by omega) (hz:=by exact hf6))<|DA<|Am<|Zn [2,4] ?_;refine A8<|FF (e:=[]) (h:=by exact ⟨⟨z.a.q,z.a.res,z.a.since,z.a.until_,z.a.base,(Z.set E qx).map RPZ.x,z.a.recs⟩,_,_,_,_,_,_,_,_,_,_,_,_,⟨U _ _ _,Nu h14 (by rw [Hb];omega) (Oo K hz14),X _ _,{hB.up with nr:=by have h:=hB.nr;rw [<-hZx]at h;simp only [C2,Hb]at h⊢;omega,rg:=Rv (by rw [hZx];exact hB.rg) hg14}⟩,rfl,rfl⟩)
          rotate_left
          focus
           refine Sk 9 V<|Z0<|Zn [2,3,4,5,355] ?_;refine Zx<|DY Y ?_
         rotate_left 2
         focus
          refine A2<|Zv (Bg (n:=14) Y Y)<|AF Y<|Ad Y (fun k222=>?_) (fun k222=>?_);refine Au (n:=14) (0::1::0::4::12::0::32::0::128::508::1020::2047::4095::8191::[]) 11280 AG AG V<|A1 0 V (AL (off:=13) C3 V rfl E0 Y)<|B6 1 V FG Y ?_;refine A1 2 rfl (Ap (j:=1) LI A4 Y Y Fl)<|B6 3 rfl A5 Y ?_;refine A1 5 rfl (Ap (j:=2) LI A4 Y Y Fl)<|B6 6 rfl A5 Y ?_;refine A1 7 rfl (Ap (j:=2) LI A4 Y Y Fl)<|B6 8 rfl A5 Y ?_;refine Yz 4 12 511 [8,6,3,1] [true,true,false,true] [(8,(_,_)),(6,(_,_)),(1,(_,_))] V Y V rfl V rfl (Zu [_,_] Y V2 Y V (Ma w1 3 AH AH p8 p9)) ?_;rintro _ _ ⟨rfl,rfl⟩;refine ⟨Zk (Zk (Zk (Ab))),?_⟩;obtain ⟨y9,vw⟩:∃k,k=CU w1 3:=⟨_,rfl⟩;rw [<-vw];have MC:=Dp w1 3 AH
          rw [<-vw]at MC;refine A1 9 V (BK (vs:=[(0,I4 (y9:Int)),(2,I4 w2),(3,I4 w2)]) (cs:=#[I4 (y9:Int),I4 0,I4 w2,I4 w2,I4 0,I4 0,.slice none 0 0,.slice none 0 0,.slice none 0 0]) Y (AY (pl:=#[(0,1),(1,1),(2,1),(3,1),(4,1),(5,1),(6,1),(7,1),(8,1)]) N0 Bm (fun _=>by kernel_rfl) AG))<|Yz 10 1020 2047 [8,6,1] [false,false,true] [(1,(_,_))] V Y V rfl V rfl (Ah (vs:=[_]) (cs:=[_,_,_,_,_,_,_,_,_]) Ds DM N0 Y V rfl V rfl V)<|AE fun Tg=>CA<|Yw 11 4095 V (BL (by_:=120) (sz:=9) Ds (V:Tryz.prog.info? 49=some Tryz.t49) V rfl V rfl Y (af) Y (D7 9 Tg 1 1 49 (0,0) [I4 (y9:Int),I4 0,I4 w2,I4 w2,I4 0,I4 0,.slice none 0 0,.slice none 0 0,.slice none 0 0] V) Wo Wo HH A0 A0) ?_;rintro _ _ ⟨sw15,wz,rfl⟩;obtain ⟨gw15,cw15,rfl⟩:=wz.form;refine A1 12 V (AL (off:=13) C3 V rfl E0 Y)<|Zz (l:=[13])<|C6 [] [] V rfl (Zs E0 Y Y V (hi:=by(simp;done))) ?_ (fun _ _ h=>h.elim) Ar;rintro _ _ ⟨rfl,rfl⟩;refine CA<|Am<|Zn [2,4] ?_;refine A8<|FF (e:=[]) (h:=by exact ⟨⟨z.a.q,z.a.res,z.a.since,z.a.until_,z.a.base,(Z++[(⟨⟨(y9:Int),0,w2,w2,0,0,[],[],[]⟩,none,0,none,0,none,0⟩:RPZ)]).map RPZ.x,z.a.recs⟩,_,_,_,_,_,_,_,_,_,_,_,[],⟨U _ _ _,nz (z:=(⟨⟨(y9:Int),0,w2,w2,0,0,[],[],[]⟩,none,0,none,0,none,0⟩:RPZ)) wz A0 K (vE _ _),X _ _,{hB.up with nr:=by simp only [C2,C7,HI];omega,rg:=fun x hx=>by rw [HD,hZx]at hx;rcases GS.1 hx with h|h;exact (hB.rg x h).up;rw [HA.1 h];exact yF _ _ _}⟩,rfl,rfl⟩)
  all_goals
   refine AB<|A8<|FF (e:=[]) (h:=by exact ⟨⟨z.a.q,z.a.res,z.a.since,z.a.until_,z.a.base,z.a.ranges,z.a.recs⟩,_,_,_,_,_,_,_,_,_,_,_,[],⟨U _ _ _,bf _ _,X _ _,hB.up⟩,V,V⟩)
 rintro _ _ ⟨y,rp,gp,cp,rn,rc,gn,gc,cn,cc,s1,s2,s3,⟨hy1,hy2,hy3,hyB⟩,rfl,rfl⟩;obtain ⟨_,_,e1,_⟩:=id hy1;injection e1 with _ e1 _
 subst e1;obtain ⟨_,_,e2,_⟩:=id hy2.form;injection e2 with _ e2 _
 subst e2;obtain ⟨_,_,e3,_⟩:=id hy3;injection e3 with _ e3 _
 subst e3;refine A2<|Zo Wh (A7 (cs:=#[I4 y.q.kd,I4 y.q.tb,I4 y.q.cl,I4 y.q.lo,I4 y.q.hi,I4 y.q.bq,I4 y.q.ot,.slice rp y.res.rows.length rc,I4 y.res.val,.bool y.res.fnd,I4 y.since,I4 y.until_,I4 y.base,.slice gp y.ranges.length gc,.slice cp y.recs.length cc]) HQ F0 Y BW (by exact AP V)) ?_;refine Xe (Ao F0 Y Y ar Wu (by exact Bj rfl) DO AH (by exact Aw _)) ?_;refine A6<|AC<|Df V results48 Y Wh (Ai HQ F0 Wn (AP V)) (by exact ⟨⟨y,rp,rc,gp,gc,cp,cc⟩,s1,s2,s3,V,⟨hy1,hy2,hy3⟩,hyB,V⟩)
theorem uJ{z:FI}(hz:z.ok M)(hB:TwB z.a n)(hn:n<=10)(g:Int)(J:-9223372036854775808<=g)(K:g<=9223372036854775807)(m:Int)(O:-9223372036854775808<=m)(U:m<=9223372036854775807)(G:Int)(W:-9223372036854775808<=G)(X:G<=9223372036854775807)(I:Int)(af:-9223372036854775808<=I)(ax:I<=9223372036854775807):CJ prog 48 #[.agg z.Ax5,.agg #[I4 g,I4 m,I4 G,I4 I]] [M] (fun r H'=>∃(y:FI) (E:List AR),r= .agg y.Ax5/\y.ok (E++M)/\TwB y.a (n+1)/\H'=[E,M]):=by
 refine E8 (nG hz hB hn g J K m O U G W X I af ax) V ?_;rintro w H' ⟨y,s1,s2,s3,rfl,h1,h2,rfl⟩;exact ⟨_,⟨y,s1++(s2++s3),V,by simpa only [G0]using h1,h2,V⟩,by simp⟩
end Go.Proofs.YtljkoipiekbijaaGreatDoor
