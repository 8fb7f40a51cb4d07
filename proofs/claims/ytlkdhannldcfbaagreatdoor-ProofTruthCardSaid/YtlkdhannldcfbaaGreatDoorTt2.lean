/- cachetierref11.Twisted: an answer that is changed is an answer. -/
import Derived.Test.YtlkdhannldcfbaaGreatDoorPz1
set_option linter.unusedVariables false
set_option linter.unusedSimpArgs false
namespace Go.Proofs.YtlkdhannldcfbaaGreatDoor
open Go.Proofs.Tryz
open Go Go.RowKit Gw
set_option maxRecDepth 100000
attribute [local irreducible] Gw.At Gw.Nx Gw.Ops
variable{M:List AU}{p:B7}{cap n:Nat}
theorem VB{l:List AY}(h:Da M (.slice p n cap) l)(k d:Nat)(I:k<=l.length)(G:k<=d):Da M (.slice p k d) (l.take k):=by
 obtain ⟨K,m,e,J,y⟩:=h;injection e with e1 e2 e3
 subst e1 e3;have E:(l.take k).length=k:=by rw [zy];omega
 refine ⟨_,_,by rw [E],by omega,fun i r g=>?_⟩;rw [Gk]at g;split at g;· exact y i r g
 · cases g
theorem dC{l:List (List Bs)}(h:G5 M (.slice p n cap) l)(k d:Nat)(I:k<=l.length)(G:k<=d):G5 M (.slice p k d) (l.take k):=by
 obtain ⟨K,m,e,J,y⟩:=h;injection e with e1 e2 e3
 subst e1 e3;have E:(l.take k).length=k:=by rw [zy];omega
 refine ⟨_,_,by rw [E],by omega,fun i r g=>?_⟩;rw [Gk]at g;split at g;· exact y i r g
 · cases g
variable{l:List Bg}
theorem nV(h:Cw M (.slice p n cap) l)(k d:Nat)(I:k<=l.length)(G:k<=d):Cw M (.slice p k d) (l.take k):=by
 obtain ⟨K,m,e,J,y⟩:=h;injection e with e1 e2 e3
 subst e1 e3;have E:(l.take k).length=k:=by rw [zy];omega
 refine ⟨_,_,by rw [E],by omega,fun i r g=>?_⟩;rw [Gk]at g;split at g;· exact y i r g
 · cases g
theorem rO{l:List Chg}(h:Dq M (.slice p n cap) l)(k d:Nat)(I:k<=l.length)(G:k<=d):Dq M (.slice p k d) (l.take k):=by
 obtain ⟨K,m,e,J,y⟩:=h;injection e with e1 e2 e3
 subst e1 e3;have E:(l.take k).length=k:=by rw [zy];omega
 refine ⟨_,_,by rw [E],by omega,fun i r g=>?_⟩;rw [Gk]at g;split at g;· exact y i r g
 · cases g
theorem sN{l:List RPZ}(h:ZsU M (.slice p n cap) l)(k d:Nat)(I:k<=l.length)(G:k<=d):ZsU M (.slice p k d) (l.take k):=by
 obtain ⟨K,m,e,J,y⟩:=h;injection e with e1 e2 e3
 subst e1 e3;have E:(l.take k).length=k:=by rw [zy];omega
 refine ⟨_,_,by rw [E],by omega,fun i r g=>?_⟩;rw [Gk]at g;split at g;· exact y i r g
 · cases g
theorem nM{L:List RP}(h:FE M (.slice p n cap) L)(k d:Nat)(g:k<=L.length)(y:k<=d):FE M (.slice p k d) (L.take k):=by
 obtain ⟨Z,m,rfl⟩:=h;rw [zu]at g;exact ⟨Z.take k,sN m k d g y,List.map_take⟩
theorem bT{l:List AY}(h:Da M (.slice p n cap) l)(k:Nat)(O:k<=l.length):Da M (.slice (EF p k cap 5) (n -k) (cap -k)) (l.drop k):=by
 obtain ⟨U,y,e,⟨J,h2⟩,E⟩:=h;injection e with e1 e2 e3
 subst e1 e2 e3;refine ⟨_,_,by rw [C0],⟨by rw [C0];omega,by rw [C0];omega⟩,fun i r m=>?_⟩;rw [Hh]at m;have hi:=(zt.1 m).1
 obtain ⟨g,off,cur,T,zz,rfl,G,K,I⟩:=E (k+i) r m;refine ⟨g,off+k*5,cur,T,zz,?_,G,by omega,by rw [show off+k*5+i*5=off+(k+i)*5 by omega];exact I⟩;unfold EF;rw [As A0,L7,Cb]
theorem wI{α:Type}{f:α->List A4}{sz:Nat}(g:∀a,(f a).length=sz):∀(l:List α) (k:Nat),(l.flatMap f).take (k*sz)=(l.take k).flatMap f/\(l.flatMap f).drop (k*sz)=(l.drop k).flatMap f
 |l,0=>by rw [Tr];exact ⟨rfl,rfl⟩
 |[],k+1=>by simp
 |a::l,k+1=>by
  have h:=wI g l k;have e:(k+1)*sz=(f a).length+k*sz:=by rw [g,It,cS,Nat.add_comm]
  rw [HF,e,List.take_length_add_append,List.drop_length_add_append,h.1,h.2];exact ⟨V,V⟩
theorem J7{α:Type}{f:α->List A4}{sz:Nat}(g:∀a,(f a).length=sz):∀{l:List α} {k j:Nat} {a b:α} {v:A4},l[k]?=some a->j<sz->(f a).set j v=f b->(l.flatMap f).set (k*sz+j) v=(l.set k b).flatMap f
 |[],k,j,a,b,v,h,_,_=>by cases h
 |c::l,0,j,a,b,v,h,hj,hv=>by
  injection h with h
  subst h;rw [Tr,C6,HF,List.set_append_left _ _ (by rw [g];exact hj),hv];rfl
 |c::l,k+1,j,a,b,v,h,hj,hv=>by
  have e:(k+1)*sz+j=(f c).length+(k*sz+j):=by rw [g,It,cS];omega
  rw [HF,e,eA _ _ A0,ep,J7 g (by simpa using h) hj hv];rfl
variable{j k:Nat}
theorem Ce{α:Type}{f:α->List A4}{sz:Nat}(m:∀a,(f a).length=sz){l:List α}{a:α}(h:l[k]?=some a)(y:j<sz):(l.flatMap f)[k*sz+j]?=(f a)[j]?:=by
 have g:=Gq f sz m l k a h;rw [<-g,Gk,B0 y,Hh]
theorem Qu(l:List Bg)(k:Nat):(Dl l).take (k*2)=Dl (l.take k)/\(Dl l).drop (k*2)=Dl (l.drop k):=wI (f:=fun r:Bg=>[I4 r.p,.slice r.q r.cs.length r.cap]) (sz:=2) (fun _=>rfl) l k
theorem Wz{r:Bg}(h:l[k]?=some r)(g:j<2):(Dl l)[k*2+j]?=([I4 r.p,.slice r.q r.cs.length r.cap]:List A4)[j]?:=Ce (f:=fun r:Bg=>[I4 r.p,.slice r.q r.cs.length r.cap]) (sz:=2) (fun _=>rfl) h g
variable{v:A4}
theorem Wy{a b:Bg}(h:l[k]?=some a)(g:j<2)(hv:([I4 a.p,.slice a.q a.cs.length a.cap]:List A4).set j v=[I4 b.p,.slice b.q b.cs.length b.cap]):(Dl l).set (k*2+j) v=Dl (l.set k b):=J7 (f:=fun r:Bg=>[I4 r.p,.slice r.q r.cs.length r.cap]) (sz:=2) (fun _=>rfl) h g hv
theorem zc9(z:RPZ):(El z).length=9:=rfl
theorem oz(n:Nat):max (1:Int) (n:Int)=((max 1 n:Nat):Int):=by omega
structure RgB(x:RP)(n:Nat):Prop where
 fi:-(1000000000+10*(n:Int))<=x.fi/\x.fi<=1000000000+10*(n:Int)
 ct:-(1000000000+10*(n:Int))<=x.ct/\x.ct<=1000000000+10*(n:Int)
 nr:x.rows.length<=2000
 np:x.paths.length<=2000
 nt:x.roots.length<=1000
 rl:∀s∈x.roots,s.length<=1000
 pl:∀l∈x.paths,l.length<=1000000
 rv:∀r∈x.rows,(-(1000000000+(n:Int))<=r.v.a/\r.v.a<=1000000000+(n:Int))/\(-(1000000000+(n:Int))<=r.v.b/\r.v.b<=1000000000+(n:Int))/\(-(1000000000+(n:Int))<=r.v.c/\r.v.c<=1000000000+(n:Int))
structure TwB(a:JX)(n:Nat):Prop where
 val:-(3000000000000000000+10*(n:Int))<=a.res.val/\a.res.val<=3000000000000000000+10*(n:Int)
 rows:a.res.rows.length<=100000
 since:-(1000000+10*(n:Int))<=a.since/\a.since<=1000000+10*(n:Int)
 end_:-(1000000+10*(n:Int))<=a.until_/\a.until_<=1000000+10*(n:Int)
 base:-(1000000+10*(n:Int))<=a.base/\a.base<=1000000+10*(n:Int)
 nr:a.ranges.length<=101+n
 nc:a.recs.length<=1000
 cs:∀x∈a.recs,x.cs.length<=1000/\x.cs.length<=x.cap
 rg:∀x∈a.ranges,RgB x n
theorem RgB.up{x:RP}(h:RgB x n):RgB x (n+1):=by
 obtain ⟨K,h2,g,m,y,E,G,I⟩:=h;exact ⟨by omega,by omega,g,m,y,E,G,fun r J=>by have:=I r J;omega⟩
theorem TwB.up{a:JX}(h:TwB a n):TwB a (n+1):=by
 obtain ⟨E,h2,G,I,J,K,g,m,y⟩:=h;exact ⟨by omega,h2,by omega,by omega,by omega,by omega,g,m,fun x hx=>(y x hx).up⟩
variable{Z:List RPZ}{z:RPZ}
theorem SA(h:∀x∈Z.map RPZ.x,RgB x n)(hz:RgB z.x (n+1)):∀x∈(Z.set k z).map RPZ.x,RgB x (n+1):=fun x hx=>by
 obtain ⟨y,hy,rfl⟩:=GB.1 hx;rcases W4 hy with h9|rfl
 · exact (h _ (O2 h9)).up
 · exact hz
variable{s3 s2 s1:List AU}
theorem Nu(h:BZ 9 87 v Z.length (Z.flatMap El) s1)(hn:Z.length<=maxLen)(g:∀z∈Z,z.ok (s3++M)):FE (s1++(s2++(s3++M))) v (Z.map RPZ.x):=
 (YE h hn g).mono fun c hc=>by
   rcases DM.1 hc with h9|h9
   · exact E3 _ h9
   · exact DA _ (DA _ h9)
theorem Ol(h:∀z∈Z,z.ok M)(hz:z.ok (s3++M)):∀y∈Z.set k z,y.ok (s3++M):=fun y hy=>by
 rcases W4 hy with h9|rfl
 · exact (h y h9).mono fun c hc=>DA _ hc
 · exact hz
theorem nY(h:BZ 2 81 v l.length (Dl l) s2)(hn:l.length<=maxLen)(g:∀r∈l,Dq M (.slice r.q r.cs.length r.cap) r.cs):Cw (s1++(s2++(s3++M))) v l:=
 Ey (NJ h hn g) fun c hc=>by
  rcases DM.1 hc with h9|h9
  · exact DA _ (E3 _ h9)
  · exact DA _ (DA _ (DA _ h9))
theorem Jh{l:List AY}(h:Da M (.slice p n cap) l):n<=cap:=by
 obtain ⟨y,g,e,m,_⟩:=h;injection e with e1 e2 e3
 omega
theorem IU{l:List (List Bs)}(h:G5 M (.slice p n cap) l):n<=cap:=by
 obtain ⟨y,g,e,m,_⟩:=h;injection e with e1 e2 e3
 omega
theorem uV(M:List AU)(x:RP)(m:x.rows=[]:=by rfl)(g:x.paths=[]:=by rfl)(E:x.roots=[]:=by rfl):(⟨x,none,0,none,0,none,0⟩:RPZ).ok M:=by
 refine ⟨?_,?_,?_⟩
 · show Da M (.slice none x.rows.length 0) x.rows
   rw [m];exact ⟨none,0,V,⟨C2 _,B8 _⟩,fun i y hy=>by cases hy⟩
 · show G5 M (.slice none x.paths.length 0) x.paths
   rw [g];exact ⟨none,0,V,⟨C2 _,B8 _⟩,fun i y hy=>by cases hy⟩
 · show DK M (.slice none x.roots.length 0) x.roots
   rw [E];exact ⟨none,0,V,⟨C2 _,B8 _⟩,fun i y hy=>by cases hy⟩
theorem xG(t:Int)(w:Int)(n:Nat):RgB ⟨t,0,w,w,0,0,[],[],[]⟩ n:=⟨by(try simp only);omega,by(try simp only);omega,C2 _,C2 _,C2 _,fun s g=>by(cases g),fun s g=>by(cases g),fun s g=>by(cases g)⟩
theorem nL(h:BZ 9 87 v (Z.length+1) (Z.flatMap El++El z) s1)(hn:Z.length+1<=maxLen)(g:∀z∈Z,z.ok M)(hz:z.ok M):FE (s1++(s2++(s3++M))) v ((Z++[z]).map RPZ.x):=
 Nu (BH h B3 (by rw [Ly];simp)) (by simpa using hn) fun y hy=>by
  rcases DM.1 hy with h9|h9
  · exact (g y h9).mono fun c hc=>DA _ hc
  · rw [D0.1 h9];exact hz.mono fun c hc=>DA _ hc
theorem vR{r:AY}(j:Nat)(h:(-(1000000000+(n:Int))<=r.v.a/\r.v.a<=1000000000+(n:Int))/\(-(1000000000+(n:Int))<=r.v.b/\r.v.b<=1000000000+(n:Int))/\(-(1000000000+(n:Int))<=r.v.c/\r.v.c<=1000000000+(n:Int))):
 (-(1000000000+((n+1:Nat):Int))<=(Ns r j).v.a/\(Ns r j).v.a<=1000000000+((n+1:Nat):Int))/\(-(1000000000+((n+1:Nat):Int))<=(Ns r j).v.b/\(Ns r j).v.b<=1000000000+((n+1:Nat):Int))/\(-(1000000000+((n+1:Nat):Int))<=(Ns r j).v.c/\(Ns r j).v.c<=1000000000+((n+1:Nat):Int)):=by
 unfold Ns;simp only;refine ⟨?_,?_,?_⟩<;>split<;>omega
theorem Mh(c:Int)(n:Nat)(hn:0<n)(m:n<=1000000)(y:-9223372036854775808<=c)(h2:c<=9223372036854775807):BC prog 57 #[I4 c,I4 (n:Int)] [] (I4 (Bu c n:Int)):=by
 refine Se func57 ntmps57 [0,1] ?_;intro u R;refine A1<|A3 Y<|Zq<|A1<|Zm Y ?_;first|refine Ap (Au (n:=0) Y Y) ?_|refine Ap (ET Y Y) ?_
 refine Z0<|Zx ?_;first|refine Ak Y (fun g=>?_) (fun g=>?_)|refine Ad Y (fun g=>?_) (fun g=>?_)
 ·
  refine Zg<|Zm Y ?_;first|(refine Ap (Bp (n:=1) Y Y ?_) ?_;(focus (omega)))|(refine Ap (EU Y Y (IntWalk.i64_in _ ?_)) ?_;(focus (omega)))
  (refine Ap (TA Y (IntWalk.i64_in _ ?_)) ?_;(focus (omega)))
  refine A3 Y<|A1<|Zm Y<|Zm Y ?_;first|(refine Ap (De Y Y ?_) ?_;(focus (omega)))|(refine Ap (KH Y Y ?_ rfl) ?_;(focus (omega)))
  refine A3 Y<|AA<|AC rfl results57 Y (by exact ⟨by rw [<-Kr];simp [*],rfl⟩)
 refine AB<|Zx<|A1<|Zm Y<|Zm Y ?_;first|(refine Ap (De Y Y ?_) ?_;(focus (omega)))|(refine Ap (KH Y Y ?_ rfl) ?_;(focus (omega)))
 refine A3 Y<|AA<|AC rfl results57 Y (by exact ⟨by rw [<-Kr];simp [*],rfl⟩)
set_option maxHeartbeats 4000000 in
theorem mO{z:Fq}(hz:z.ok M)(hB:TwB z.a n)(hn:n<=10)(w0:Int)(h0a:-9223372036854775808<=w0)(h0b:w0<=9223372036854775807)(w1:Int)(q8:-9223372036854775808<=w1)(qa:w1<=9223372036854775807)(w2:Int)(qb:-9223372036854775808<=w2)(qc:w2<=9223372036854775807)(w3:Int)(h3a:-9223372036854775808<=w3)(h3b:w3<=9223372036854775807):Bz prog 23 #[.agg #[I4 z.a.q.kd,I4 z.a.q.tb,I4 z.a.q.cl,I4 z.a.q.lo,I4 z.a.q.hi,I4 z.a.q.bq,I4 z.a.q.ot,.slice z.rp z.a.res.rows.length z.rc,I4 z.a.res.val,.bool z.a.res.fnd,I4 z.a.since,I4 z.a.until_,I4 z.a.base,.slice z.gp z.a.ranges.length z.gc,.slice z.cp z.a.recs.length z.cc],.agg #[I4 w0,I4 w1,I4 w2,I4 w3]] [M] (fun r H'=>∃(y:Fq) (s1 s2 s3:List AU),r= .agg #[I4 y.a.q.kd,I4 y.a.q.tb,I4 y.a.q.cl,I4 y.a.q.lo,I4 y.a.q.hi,I4 y.a.q.bq,I4 y.a.q.ot,.slice y.rp y.a.res.rows.length y.rc,I4 y.a.res.val,.bool y.a.res.fnd,I4 y.a.since,I4 y.a.until_,I4 y.a.base,.slice y.gp y.a.ranges.length y.gc,.slice y.cp y.a.recs.length y.cc]/\y.ok (s1++(s2++(s3++M)))/\TwB y.a (n+1)/\H'=[s1,s2,s3,M]):=by
 have hml:=mL;obtain ⟨p0,cap0,e0,⟨hrl1,hrl2⟩,_⟩:=id hz.1;obtain ⟨Z,hZ,hZx⟩:=id hz.2.1;have hZl:Z.length=z.a.ranges.length:=by rw [<-hZx,zu]
 have hcz:=Uf hZ;obtain ⟨pz,cz,ez,⟨hz1,hz2⟩,hzg⟩:=id hZ;have hcr0:=Sb hz.2.2
 obtain ⟨pc,cc9,ec,⟨hc1,hc2⟩,hcg⟩:=id hz.2.2;have W:∀y∈Z,y.ok M:=fun y hy=>by obtain ⟨i,hi⟩:=H4 hy;exact (hzg i y hi).1
 have pq:∀r∈z.a.recs,Dq M (.slice r.q r.cs.length r.cap) r.cs:=fun r hr=>by obtain ⟨i,hi⟩:=H4 hr;exact (hcg i r hi).1
 have hb1:=hB.val;have hb2:=hB.rows
 have hb3:=hB.since;have hb4:=hB.end_
 have hb5:=hB.base;have hb6:=hB.nr
 have hb7:=hB.nc;have hj16:=Dm w0 16 AK
 have hrcap:=Jh hz.1;refine Se func23 ntmps23 [0,1] ?_;intro u R;refine A1<|Ze (Bx #[I4 z.a.q.kd,I4 z.a.q.tb,I4 z.a.q.cl,I4 z.a.q.lo,I4 z.a.q.hi,I4 z.a.q.bq,I4 z.a.q.ot,.slice z.rp z.a.res.rows.length z.rc,I4 z.a.res.val,.bool z.a.res.fnd,I4 z.a.since,I4 z.a.until_,I4 z.a.base,.slice z.gp z.a.ranges.length z.gc,.slice z.cp z.a.recs.length z.cc])<|AF fun ba=>Ze (Bx #[I4 w0,I4 w1,I4 w2,I4 w3])<|AF fun bw=>Ze (Al Hv #[_,_,_,_,_,_,_,_,_,_,_,_,_,_,_])<|AF fun bo=>AD<|A1<|Ze (EN DQ DE)<|AF fun gb1=>Zh 13 BW V rfl DB Y<|Zl E0 Y ?_;refine Ze (Fs (by_:=120) (sz:=9) DQ (rfl:Tryz.prog.info? 87=some Tryz.t87) rfl rfl rfl rfl Y (EX 9 87 gb1 0 [] rfl AK) Y (hcz) (by rw [vg,hZl]) AK Wo Wo (by exact lZ _) A0 A0) ?_;rintro _ _ ⟨sa1,mR,rfl⟩;replace mR:=BH (n':=Z.length) mR A0 (L5 _);obtain ⟨g1,c1,rfl⟩:=mR.form;obtain ⟨sa,hsa⟩:∃s,s=sa1:=⟨_,rfl⟩;refine Zh 13 BW rfl rfl DB Y<|Xe (Zs DB Y Y rfl (hc:=by exact (rfl:_=(#[I4 z.a.q.kd,I4 z.a.q.tb,I4 z.a.q.cl,I4 z.a.q.lo,I4 z.a.q.hi,I4 z.a.q.bq,I4 z.a.q.ot,.slice z.rp z.a.res.rows.length z.rc,I4 z.a.res.val,.bool z.a.res.fnd,I4 z.a.since,I4 z.a.until_,I4 z.a.base,.slice g1 Z.length c1,.slice z.cp z.a.recs.length z.cc]:AN))) (hi:=by first|omega|decide|(simp;done))) ?_;refine AD<|A1<|Ze (EN Fl E6)<|AF fun gb2=>Zh 14 BW V rfl Kf Y<|Zl MY Y ?_;refine Ze (Fs (by_:=32) (sz:=2) Fl (V:Tryz.prog.info? 81=some Tryz.t81) V rfl V rfl Y (EX 2 81 gb2 0 [] V AK) Y (hcr0) (by exact Ng _) AK Wo Wo (by exact Ov _) A0 A0) ?_;rintro _ _ ⟨sa2,o8,rfl⟩;replace o8:=BH (n':=z.a.recs.length) o8 A0 (L5 _);obtain ⟨g2,c2,rfl⟩:=o8.form;have bf:=mR
 have qd:=o8;have hle1:=Ex bf
 have hle2:=Ex qd;have E:∀s1 s2 s3,Da (s1++(s2++(s3++M))) (.slice z.rp z.a.res.rows.length z.rc) z.a.res.rows:=fun _ _ _=>hz.1.mono fun c hc=>by simp [hc]
 have O:∀s2 s3,FE (sa1++(s2++(s3++M))) (.slice g1 Z.length c1) z.a.ranges:=fun s2 s3=>by rw [<-hZx];exact Nu bf A0 fun y hy=>(W y hy).mono fun c hc=>DA _ hc
 have G:∀s1 s3,Cw (s1++(sa2++(s3++M))) (.slice g2 z.a.recs.length c2) z.a.recs:=fun s1 s3=>nY qd A0 pq;refine Zh 14 BW rfl rfl Kf Y<|Xe (Zs Kf Y Y rfl (hc:=by exact (rfl:_=(#[I4 z.a.q.kd,I4 z.a.q.tb,I4 z.a.q.cl,I4 z.a.q.lo,I4 z.a.q.hi,I4 z.a.q.bq,I4 z.a.q.ot,.slice z.rp z.a.res.rows.length z.rc,I4 z.a.res.val,.bool z.a.res.fnd,I4 z.a.since,I4 z.a.until_,I4 z.a.base,.slice g1 Z.length c1,.slice g2 z.a.recs.length c2]:AN))) (hi:=by first|omega|decide|(simp;done))) ?_;refine Z0<|Zn [2,3,4] ?_;refine Zx<|Zq<|Zg ?_;first|(refine Ap (Ag (j:=1) FA A5 Y Y ?_) ?_;(focus (first|omega|decide|(simp;done))))|(refine Ap (BK (j:=1) FA A5 Y Y ?_) ?_;(focus (first|omega|decide|(simp;done))))
 refine Zl AE Y ?_;refine Zh 13 BW V rfl DB Y<|Zl E0 Y ?_;refine Zv (AP DQ Y) ?_;first|refine Ap (Jl Y Y) ?_|refine Ap (Kz Y Y) ?_
 rw [oz];refine Xr [_,_] Y S7 Y V (Mh w1 (max 1 Z.length) A0 A0 q8 qa) ?_;obtain ⟨I,Tx⟩:∃k,k=Bu w1 (max 1 Z.length):=⟨_,rfl⟩;rw [<-Tx];have hlkz:=Dm w1 (max 1 Z.length) A0
 rw [<-Tx]at hlkz;refine A3 Y<|Zq<|Zg ?_;first|(refine Ap (Ag (j:=2) FA A5 Y Y ?_) ?_;(focus (first|omega|decide|(simp;done))))|(refine Ap (BK (j:=2) FA A5 Y Y ?_) ?_;(focus (first|omega|decide|(simp;done))))
 refine Zl AE Y ?_;refine Zh 14 BW V rfl Kf Y<|Zl MY Y ?_;refine Zv (AP Fl Y) ?_;first|refine Ap (Jl Y Y) ?_|refine Ap (Kz Y Y) ?_
 rw [oz];refine Xr [_,_] Y S7 Y V (Mh w2 (max 1 z.a.recs.length) A0 A0 qb qc) ?_;obtain ⟨nn,hqnn⟩:∃k,k=Bu w2 (max 1 z.a.recs.length):=⟨_,rfl⟩;rw [<-hqnn];have hlnn:=Dm w2 (max 1 z.a.recs.length) A0
 rw [<-hqnn]at hlnn;refine AH Y<|Zn [2,3,4,5,6] ?_;refine Zx<|Bl<|Zb [3,5,6,2,4] ?_;refine CL (e0:=[(3,_),(5,_),(6,_)]) (H0:=[[(ba,_)],sa1,sa2,[]]) (fun e H=>∃(y:JX) (rp gp cp:B7) (rn rc gn gc cn cc:Nat) (s1 s2 s3:List AU),(Da (s1++(s2++(s3++M))) (.slice rp rn rc) y.res.rows/\FE (s1++(s2++(s3++M))) (.slice gp gn gc) y.ranges/\Cw (s1++(s2++(s3++M))) (.slice cp cn cc) y.recs/\TwB y (n+1))/\e=[]/\H=[[(ba,.cells #[I4 y.q.kd,I4 y.q.tb,I4 y.q.cl,I4 y.q.lo,I4 y.q.hi,I4 y.q.bq,I4 y.q.ot,.slice rp rn rc,I4 y.res.val,.bool y.res.fnd,I4 y.since,I4 y.until_,I4 y.base,.slice gp gn gc,.slice cp cn cc] 40 (0,0))],s1,s2,s3]) Wp ?hx_1 ?hy_1
 case hx_1=>
  refine Zq<|Zg ?_;first|(refine Ap (Ag (j:=0) FA A5 Y Y ?_) ?_;(focus (first|omega|decide|(simp;done))))|(refine Ap (BK (j:=0) FA A5 Y Y ?_) ?_;(focus (first|omega|decide|(simp;done))))
  refine Zl AE Y ?_;refine Xr [_,_] Y S7 Y V (Mh w0 16 AK AK h0a h0b) ?_;refine AD<|AX<|Zq<|Zg ?_;first|refine Ap (Bb (n:=0) Y Y) ?_|refine Ap (Br Y Y) ?_
  refine AH Y<|Zx ?_;first|refine Ak Y (fun k0=>?_) (fun k0=>?_)|refine Ad Y (fun k0=>?_) (fun k0=>?_)
  ·
   have ht:=Us w1 5 AK;refine Zg<|Zh 7 BW V rfl B6 Y<|Zv (Aj (off:=1) Cp V rfl A5 Y)<|Zl AE Y ?_;first|(refine Ap (Ag (j:=1) FA A5 Y Y ?_) ?_;(focus (first|omega|decide|(simp;done))))|(refine Ap (BK (j:=1) FA A5 Y Y ?_) ?_;(focus (first|omega|decide|(simp;done))))
   refine Zl AE Y ?_;first|(refine Ap (De (n:=5) Y Y ?_) ?_;(focus (omega)))|(refine Ap (KH Y Y ?_ rfl) ?_;(focus (omega)))
   first|(refine Ap (Bp Y Y ?_) ?_;(focus (omega)))|(refine Ap (EU Y Y (IntWalk.i64_in _ ?_)) ?_;(focus (omega)))
   refine Zh 7 BW rfl rfl B6 Y<|Zv (Aj (off:=1) Cp rfl rfl A5 Y)<|Xe (Zs A5 Y Y rfl (hi:=by first|omega|decide|(simp;done))) ?_;refine Z0<|Zn [2,4] ?_;refine A8<|Zn [2,4] ?_;refine Aq (e':=[]) (by exact ⟨⟨z.a.q,⟨z.a.res.rows,z.a.res.val+w1.tmod 5,z.a.res.fnd⟩,z.a.since,z.a.until_,z.a.base,z.a.ranges,z.a.recs⟩,_,_,_,_,_,_,_,_,_,_,_,[],⟨E _ _ _,O _ _,G _ _,{hB.up with val:=by(try simp only);omega}⟩,V,V⟩)
  refine Zq<|Zg ?_;first|refine Ap (Bb (n:=1) Y Y) ?_|refine Ap (Br Y Y) ?_
  refine AH Y<|Zx ?_;first|refine Ak Y (fun k1_=>?_) (fun k1_=>?_)|refine Ad Y (fun k1_=>?_) (fun k1_=>?_)
  ·
   refine BJ (n:=15) (0::1::3::0::8::0::32::96::224::480::1016::2047::4095::8191::16383::[]) 17408 AG AG V<|A2 0 V (AV (off:=7) BW V rfl B6 Y)<|A2 1 V (Aj (off:=0) Cp V rfl C4 Y)<|B2 2 V DO Y ?_;first|(refine Bq (D':=15) 3 (Ag (j:=1) FA A5 Y Y ?_) ?_;(focus (first|omega|decide|(simp;done))))|(refine Bq (D':=15) 3 (BK (j:=1) FA A5 Y Y ?_) ?_;(focus (first|omega|decide|(simp;done))))
   refine B2 4 V AE Y ?_;refine A2 5 V (AV (off:=7) BW V rfl B6 Y)<|A2 6 V (Aj (off:=0) Cp V rfl C4 Y)<|B2 7 V DO Y ?_;refine A2 8 V (AP B4 Y) ?_;first|(refine Bq (D':=1023) 9 (Bp (n:=1) Y Y ?_) ?_;(focus (omega)))|(refine Bq (D':=1023) 9 (EU Y Y (IntWalk.i64_in _ ?_)) ?_;(focus (omega)))
   refine Yz 10 1016 2047 [7,4,2] [false,false,true] [(2,(_,_))] V Y V rfl V rfl (Zu [_,_] Y S7 Y V (Mh w1 (z.a.res.rows.length+1) A0 A0 q8 qa)) ?_;rintro _ _ ⟨rfl,rfl⟩;refine ⟨Zk (Ae),?_⟩;obtain ⟨k1,Ta⟩:∃k,k=Bu w1 (z.a.res.rows.length+1):=⟨_,rfl⟩;rw [<-Ta];have hlk1:=Dm w1 (z.a.res.rows.length+1) A0
   rw [<-Ta]at hlk1;refine A2 11 rfl (Bc B4 Ax Y Y CT)<|A2 12 rfl (AV (off:=7) BW rfl rfl B6 Y)<|A2 13 rfl (Aj (off:=0) Cp rfl rfl C4 Y)<|Zz (l:=[14])<|BE [false] [] rfl rfl (Zs C4 Y Y rfl (hi:=by first|omega|decide|(simp;done))) ?_ (fun _ _ h=>h.elim) Ay;rintro _ _ ⟨rfl,rfl⟩;refine BT<|Ao<|Zn [2,4] ?_;refine A8<|Zn [2,4] ?_;refine Aq (e':=[]) (by exact ⟨⟨z.a.q,⟨z.a.res.rows.take k1,z.a.res.val,z.a.res.fnd⟩,z.a.since,z.a.until_,z.a.base,z.a.ranges,z.a.recs⟩,_,_,_,_,_,_,_,_,_,_,_,[],⟨VB (E _ _ _) k1 z.rc A0 A0,O _ _,G _ _,{hB.up with rows:=by simp only [zy];omega}⟩,V,V⟩)
  refine Zq<|Zg ?_;first|refine Ap (Bb (n:=2) Y Y) ?_|refine Ap (Br Y Y) ?_
  refine AH Y<|Zx ?_;first|refine Ak Y (fun zm=>?_) (fun zm=>?_)|refine Ad Y (fun zm=>?_) (fun zm=>?_)
  ·
   have ht:=Us w1 3 AK;refine Zg<|Zh 10 BW V rfl A5 Y<|Zl AE Y ?_;first|(refine Ap (Ag (j:=1) FA A5 Y Y ?_) ?_;(focus (first|omega|decide|(simp;done))))|(refine Ap (BK (j:=1) FA A5 Y Y ?_) ?_;(focus (first|omega|decide|(simp;done))))
   refine Zl AE Y ?_;first|(refine Ap (De (n:=3) Y Y ?_) ?_;(focus (omega)))|(refine Ap (KH Y Y ?_ rfl) ?_;(focus (omega)))
   first|(refine Ap (Bp Y Y ?_) ?_;(focus (omega)))|(refine Ap (EU Y Y (IntWalk.i64_in _ ?_)) ?_;(focus (omega)))
   refine Zh 10 BW rfl rfl A5 Y<|Xe (Zs A5 Y Y rfl (hi:=by first|omega|decide|(simp;done))) ?_;refine Z0<|Zn [2,4] ?_;refine A8<|Zn [2,4] ?_;refine Aq (e':=[]) (by exact ⟨⟨z.a.q,z.a.res,z.a.since+w1.tmod 3,z.a.until_,z.a.base,z.a.ranges,z.a.recs⟩,_,_,_,_,_,_,_,_,_,_,_,[],⟨E _ _ _,O _ _,G _ _,{hB.up with since:=by(try simp only);omega}⟩,V,V⟩)
  refine Zq<|Zg ?_;first|refine Ap (Bb (n:=3) Y Y) ?_|refine Ap (Br Y Y) ?_
  refine AH Y<|Zx ?_;first|refine Ak Y (fun zo=>?_) (fun zo=>?_)|refine Ad Y (fun zo=>?_) (fun zo=>?_)
  ·
   have ht:=Us w1 3 AK;refine Zg<|Zh 11 BW V rfl A5 Y<|Zl AE Y ?_;first|(refine Ap (Ag (j:=1) FA A5 Y Y ?_) ?_;(focus (first|omega|decide|(simp;done))))|(refine Ap (BK (j:=1) FA A5 Y Y ?_) ?_;(focus (first|omega|decide|(simp;done))))
   refine Zl AE Y ?_;first|(refine Ap (De (n:=3) Y Y ?_) ?_;(focus (omega)))|(refine Ap (KH Y Y ?_ rfl) ?_;(focus (omega)))
   first|(refine Ap (Bp Y Y ?_) ?_;(focus (omega)))|(refine Ap (EU Y Y (IntWalk.i64_in _ ?_)) ?_;(focus (omega)))
   refine Zh 11 BW rfl rfl A5 Y<|Xe (Zs A5 Y Y rfl (hi:=by first|omega|decide|(simp;done))) ?_;refine Z0<|Zn [2,4] ?_;refine A8<|Zn [2,4] ?_;refine Aq (e':=[]) (by exact ⟨⟨z.a.q,z.a.res,z.a.since,z.a.until_+w1.tmod 3,z.a.base,z.a.ranges,z.a.recs⟩,_,_,_,_,_,_,_,_,_,_,_,[],⟨E _ _ _,O _ _,G _ _,{hB.up with end_:=by(try simp only);omega}⟩,V,V⟩)
  refine Zq<|Zg ?_;first|refine Ap (Bb (n:=4) Y Y) ?_|refine Ap (Br Y Y) ?_
  refine AH Y<|Zn [2,3,4,5,6,34,80] ?_;refine Zx ?_;first|refine Ak Y (fun zw=>?_) (fun zw=>?_)|refine Ad Y (fun zw=>?_) (fun zw=>?_)
  ·
   have ht:=Us w1 3 AK;refine Zg<|Zh 12 BW V rfl A5 Y<|Zl AE Y ?_;first|(refine Ap (Ag (j:=1) FA A5 Y Y ?_) ?_;(focus (first|omega|decide|(simp;done))))|(refine Ap (BK (j:=1) FA A5 Y Y ?_) ?_;(focus (first|omega|decide|(simp;done))))
   refine Zl AE Y ?_;first|(refine Ap (De (n:=3) Y Y ?_) ?_;(focus (omega)))|(refine Ap (KH Y Y ?_ rfl) ?_;(focus (omega)))
   first|(refine Ap (Bp Y Y ?_) ?_;(focus (omega)))|(refine Ap (EU Y Y (IntWalk.i64_in _ ?_)) ?_;(focus (omega)))
   refine Zh 12 BW rfl rfl A5 Y<|Xe (Zs A5 Y Y rfl (hi:=by first|omega|decide|(simp;done))) ?_;refine Z0<|A8<|Zn [2,4] ?_;refine Aq (e':=[]) (by exact ⟨⟨z.a.q,z.a.res,z.a.since,z.a.until_,z.a.base+w1.tmod 3,z.a.ranges,z.a.recs⟩,_,_,_,_,_,_,_,_,_,_,_,[],⟨E _ _ _,O _ _,G _ _,{hB.up with base:=by(try simp only);omega}⟩,V,V⟩)
  refine Zq<|Zg ?_;first|refine Ap (Bb (n:=5) Y Y) ?_|refine Ap (Br Y Y) ?_
  refine AH Y<|Zx ?_;first|refine Ak Y (fun zx=>?_) (fun zx=>?_)|refine Ad Y (fun zx=>?_) (fun zx=>?_)
  ·
   refine Zg ?_;first|(refine Ap (Ag (j:=1) FA A5 Y Y ?_) ?_;(focus (first|omega|decide|(simp;done))))|(refine Ap (BK (j:=1) FA A5 Y Y ?_) ?_;(focus (first|omega|decide|(simp;done))))
   refine Zl AE Y ?_;first|(refine Ap (Ag (j:=2) FA A5 Y Y ?_) ?_;(focus (first|omega|decide|(simp;done))))|(refine Ap (BK (j:=2) FA A5 Y Y ?_) ?_;(focus (first|omega|decide|(simp;done))))
   refine Zl AE Y ?_;first|(refine Ap (Ag (j:=3) FA A5 Y Y ?_) ?_;(focus (first|omega|decide|(simp;done))))|(refine Ap (BK (j:=3) FA A5 Y Y ?_) ?_;(focus (first|omega|decide|(simp;done))))
   refine Zl AE Y ?_;first|(refine Ap (Ag (j:=1) FA A5 Y Y ?_) ?_;(focus (first|omega|decide|(simp;done))))|(refine Ap (BK (j:=1) FA A5 Y Y ?_) ?_;(focus (first|omega|decide|(simp;done))))
   refine Zl AE Y ?_;first|(refine Ap (Ag (j:=2) FA A5 Y Y ?_) ?_;(focus (first|omega|decide|(simp;done))))|(refine Ap (BK (j:=2) FA A5 Y Y ?_) ?_;(focus (first|omega|decide|(simp;done))))
   refine Zl AE Y ?_;refine Zv (BQ (vs:=[(0,I4 w1),(1,I4 w2),(2,I4 w3),(3,I4 w1),(4,I4 w2)]) (cs:=#[I4 w1,I4 w2,I4 w3,I4 w1,I4 w2]) Y (Cv zeroValue23 S5 A5 AG))<|Zc [_] Y call22 Y V (ny w1 w2 w3 w1 w2 q8 qa qb qc h3a h3b q8 qa qb qc) ?_;rintro _ _ ⟨_,⟨q9,hq9,rfl,rfl⟩,rfl⟩;refine Zh 0 BW V rfl CM Y<|Xe (Xw CM #[I4 q9.kd,I4 q9.tb,I4 q9.cl,I4 q9.lo,I4 q9.hi,I4 q9.bq,I4 q9.ot,.slice z.rp z.a.res.rows.length z.rc,I4 z.a.res.val,.bool z.a.res.fnd,I4 z.a.since,I4 z.a.until_,I4 z.a.base,.slice g1 Z.length c1,.slice g2 z.a.recs.length c2]) ?_;refine Z0<|Zn [2,4] ?_;refine A8<|Zn [2,4] ?_;refine Aq (e':=[]) (by exact ⟨⟨q9,z.a.res,z.a.since,z.a.until_,z.a.base,z.a.ranges,z.a.recs⟩,_,_,_,_,_,_,_,_,_,_,_,[],⟨E _ _ _,O _ _,G _ _,{hB.up with}⟩,V,V⟩)
  refine Zq<|Zg ?_;first|refine Ap (Bb (n:=6) Y Y) ?_|refine Ap (Br Y Y) ?_
  refine AH Y<|Zx ?_;first|refine Ak Y (fun FT=>?_) (fun FT=>?_)|refine Ad Y (fun FT=>?_) (fun FT=>?_)
  ·
   refine A1<|Zh 14 BW V rfl Kf Y<|Zl MY Y ?_;refine Zv (AP Fl Y) ?_;first|refine Ap (CO (n:=0) Y Y) ?_|refine Ap (EI Y Y) ?_
   refine Z0<|Zx ?_;first|refine Ak Y (fun hn6=>?_) (fun hn6=>?_)|refine Ad Y (fun hn6=>?_) (fun hn6=>?_)
   ·
    have hnl:nn<z.a.recs.length:=by omega
    refine BJ (n:=13) (0::1::0::0::15::0::32::0::128::480::1023::2047::4095::[]) 5120 AG AG V<|A2 0 V (AV (off:=14) BW V rfl Kf Y)<|B2 1 V MY Y ?_;refine A2 2 rfl (AJ Y)<|A2 3 rfl (AJ Y)<|A2 4 rfl (Hz Fl E6 Y Y Y CT)<|A2 5 rfl (AV (off:=14) BW rfl rfl Kf Y)<|B2 6 rfl MY Y ?_;refine A2 7 V (AJ Y) ?_;first|(refine Bq (D':=511) 8 (Bp (n:=1) Y Y ?_) ?_;(focus (omega)))|(refine Bq (D':=511) 8 (EU Y Y (IntWalk.i64_in _ ?_)) ?_;(focus (omega)))
    refine A2 9 rfl (Bn Fl E6 Y Y CT)<|Yw 10 2047 rfl (WV (by_:=32) (sz:=2) Fl (rfl:Tryz.prog.info? 81=some Tryz.t81) rfl rfl rfl rfl Y (IK qd nn nn A0) Y (IL qd (nn+1) (z.a.recs.length -(nn+1)) _ A0) Wo Wo A0 A0) ?_;rintro _ _ ⟨bx6,cx6,sx6,rfl,hlx6,hrx6,rfl⟩;have h6:∀s1,Cw (s1++(sa2++(sx6++M))) (.slice bx6 (nn+(z.a.recs.length -(nn+1))) cx6) (z.a.recs.take nn++z.a.recs.drop (nn+1)):=fun s1=>by
     rcases hrx6 with⟨h8,h9,rfl⟩|h9
     · injection h9 with e1 e2 e3
       rw [e1,e3,h8,List.drop_eq_nil_of_le A0,H3];exact nV (G _ _) nn nn A0 (B8 _)
     · have h8:=BH (n':=(z.a.recs.take nn++z.a.recs.drop (nn+1)).length) (xs':=Dl (z.a.recs.take nn++z.a.recs.drop (nn+1))) h9 (by rw [zq,zy,C0];omega) (by rw [Ow];rw [(Qu z.a.recs nn).1,(Qu z.a.recs (nn+1)).2])
       exact Ey (NJ h8 (by rw [zq,zy,C0];omega) fun r hr=>pq r (by rcases DM.1 hr with h|h;exact HI h;exact ID h)) fun c hc=>by
        rcases DM.1 hc with h|h<;>simp [h]
    refine A2 11 rfl (AV (off:=14) BW rfl rfl Kf Y)<|Zz (l:=[12])<|BE [] [] rfl rfl (Zs Kf Y Y rfl (hi:=by first|omega|decide|(simp;done))) ?_ (fun _ _ h=>h.elim) Ay;rintro _ _ ⟨rfl,rfl⟩;refine BT<|Ao<|Zn [2,4] ?_;refine A8<|Zn [2,4] ?_;refine Aq (e':=[]) (by first|exact ⟨⟨z.a.q,z.a.res,z.a.since,z.a.until_,z.a.base,z.a.ranges,z.a.recs.take nn++z.a.recs.drop (nn+1)⟩,_,_,_,_,_,_,_,_,_,_,_,_,⟨E _ _ _,O _ _,h6 _,{hB.up with nc:=by simp only [zq,zy,C0];omega,cs:=fun x hx=>by rcases DM.1 hx with h|h;exact hB.cs x (HI h);exact hB.cs x (ID h)}⟩,rfl,rfl⟩|exact ⟨⟨z.a.q,z.a.res,z.a.since,z.a.until_,z.a.base,z.a.ranges,z.a.recs⟩,_,_,_,_,_,_,_,_,_,_,_,[],⟨E _ _ _,O _ _,G _ _,hB.up⟩,rfl,rfl⟩)
   refine AB<|A8<|Zn [2,4] ?_;refine Aq (e':=[]) (by exact ⟨⟨z.a.q,z.a.res,z.a.since,z.a.until_,z.a.base,z.a.ranges,z.a.recs⟩,_,_,_,_,_,_,_,_,_,_,_,[],⟨E _ _ _,O _ _,G _ _,hB.up⟩,V,V⟩)
  refine Zq<|Zg ?_;first|refine Ap (Bb (n:=7) Y Y) ?_|refine Ap (Br Y Y) ?_
  refine AH Y<|Zx ?_;first|refine Ak Y (fun Gl=>?_) (fun Gl=>?_)|refine Ad Y (fun Gl=>?_) (fun Gl=>?_)
  ·
   refine A1<|Zh 14 BW V rfl Kf Y<|Zl MY Y ?_;refine Zv (AP Fl Y) ?_;first|refine Ap (CO (n:=0) Y Y) ?_|refine Ap (EI Y Y) ?_
   refine Z0<|Zx ?_;first|refine Ak Y (fun hn7=>?_) (fun hn7=>?_)|refine Ad Y (fun hn7=>?_) (fun hn7=>?_)
   ·
    obtain ⟨gs,cs9,curs,zs,hvs,rfl,hcs,hss,hins,hfs⟩:=H8 qd A0;injection hvs with e1 _ e3
    subst e1 e3;obtain ⟨rk,hrk⟩:∃r,z.a.recs[nn]?=some r:=⟨_,zn A0⟩;have hrc:=pq rk (Cd hrk)
    have hrcs:=hB.cs rk (Cd hrk);have lv:=hins (nn*2+1) (.slice rk.q rk.cs.length rk.cap) ((Wz hrk (by decide:1<2)).trans rfl)
    obtain ⟨_,cap7,e7,hl7m,_⟩:=id hrc;injection e7 with _ _ e73
    refine BJ (n:=24) (0::1::0::0::8::0::56::120::248::0::512::0::2048::0::14336::30720::63488::129024::260096::523776::1048568::2097151::4194303::8388607::[]) 8912896 AG AG V<|A2 0 V (AV (off:=14) BW V rfl Kf Y)<|B2 1 V MY Y ?_;refine A2 2 V (AJ Y)<|A2 3 V (AV (off:=14) BW V rfl Kf Y)<|B2 4 V MY Y ?_;refine A2 5 rfl (AJ Y)<|A2 6 rfl (AO Fl E6 Y Y CT)<|A2 7 rfl (Aj (off:=1) Ft rfl rfl Hx Y)<|B2 8 rfl J1 Y (hv:=by first|exact lv|(rw [C6];exact lv)) ?_;first|(refine Bq (D':=1023) 9 (Ag (j:=3) FA A5 Y Y ?_) ?_;(focus (first|omega|decide|(simp;done))))|(refine Bq (D':=1023) 9 (BK (j:=3) FA A5 Y Y ?_) ?_;(focus (first|omega|decide|(simp;done))))
    refine B2 10 V AE Y ?_;refine A2 11 V (AV (off:=14) BW V rfl Kf Y)<|B2 12 V MY Y ?_;refine A2 13 rfl (AJ Y)<|A2 14 rfl (AO Fl E6 Y Y CT)<|A2 15 rfl (Aj (off:=1) Ft rfl rfl Hx Y)<|B2 16 rfl J1 Y (hv:=by first|exact lv|(rw [C6];exact lv)) ?_;refine A2 17 V (AP Fk Y) ?_;first|(refine Bq (D':=524287) 18 (Bp (n:=1) Y Y ?_) ?_;(focus (omega)))|(refine Bq (D':=524287) 18 (EU Y Y (IntWalk.i64_in _ ?_)) ?_;(focus (omega)))
    refine Yz 19 523776 1048575 [16,12,10,8,4,1] [false,false,false,true,true,true] [(8,(_,_)),(4,(_,_)),(1,(_,_))] V Y V rfl V rfl (Zu [_,_] Y S7 Y V (Mh w3 (rk.cs.length+1) A0 A0 h3a h3b)) ?_;rintro _ _ ⟨rfl,rfl⟩;refine ⟨Zk (Zk (Zk (Ae))),?_⟩;obtain ⟨k7,Tg⟩:∃k,k=Bu w3 (rk.cs.length+1):=⟨_,rfl⟩;rw [<-Tg];have hlk7:=Dm w3 (rk.cs.length+1) A0
    rw [<-Tg]at hlk7;have h7:∀s1 s3,Cw (s1++([(gs,.cells (curs.setIfInBounds (0+nn*2+1) (.slice rk.q k7 rk.cap)) 81 zs)]++(s3++M))) (I6 gs z.a.recs.length c2) (z.a.recs.set nn {rk with cs:=rk.cs.take k7}):=fun s1 s3=>by
     refine nY (BH (Hr qd (0+nn*2+1) (.slice rk.q k7 rk.cap)) (by rw [GS]) ?_) (by rw [GS];omega) fun r hr=>?_
     · rw [C6]
       refine Wy hrk AK (b:={rk with cs:=rk.cs.take k7}) ?_;show [_,_]=[_,_]
       rw [zy,LO A0]
     · rcases W4 hr with h|rfl
       · exact pq r h
       · have h8:=rO hrc k7 rk.cap A0 A0
         show Dq M (.slice rk.q (rk.cs.take k7).length rk.cap) (rk.cs.take k7);rw [zy,LO A0];exact h8
    refine A2 20 rfl (Bc Fk C5 Y Y CT)<|A2 21 rfl (AO Fl E6 Y Y CT)<|A2 22 rfl (Aj (off:=1) Ft rfl rfl Hx Y)<|Zz (l:=[23])<|BE [false,false,false] [] rfl rfl (Zs Hx Y Y rfl (hi:=by first|omega|decide|(simp;done)) (hz:=by exact hfs)) ?_ (fun _ _ h=>h.elim) Ay;rintro _ _ ⟨rfl,rfl⟩;refine BT<|Ao<|Zn [2,4] ?_;refine A8<|Zn [2,4] ?_;refine Aq (e':=[]) (by first|exact ⟨⟨z.a.q,z.a.res,z.a.since,z.a.until_,z.a.base,z.a.ranges,z.a.recs.set nn {rk with cs:=rk.cs.take k7}⟩,_,_,_,_,_,_,_,_,_,_,_,[],⟨E _ _ _,O _ _,h7 _ _,{hB.up with nc:=by rw [GS];exact hb7,cs:=fun x hx=>by rcases W4 hx with h|rfl;exact hB.cs x h;have h9:=hB.cs rk (Cd hrk);exact ⟨by simp only [zy];omega,by simp only [zy];omega⟩}⟩,rfl,rfl⟩|exact ⟨⟨z.a.q,z.a.res,z.a.since,z.a.until_,z.a.base,z.a.ranges,z.a.recs⟩,_,_,_,_,_,_,_,_,_,_,_,[],⟨E _ _ _,O _ _,G _ _,hB.up⟩,rfl,rfl⟩)
   refine AB<|A8<|Zn [2,4] ?_;refine Aq (e':=[]) (by exact ⟨⟨z.a.q,z.a.res,z.a.since,z.a.until_,z.a.base,z.a.ranges,z.a.recs⟩,_,_,_,_,_,_,_,_,_,_,_,[],⟨E _ _ _,O _ _,G _ _,hB.up⟩,V,V⟩)
  refine Zq<|Zg ?_;first|refine Ap (Bb (n:=8) Y Y) ?_|refine Ap (Br Y Y) ?_
  refine AH Y<|Zx ?_;first|refine Ak Y (fun Gw=>?_) (fun Gw=>?_)|refine Ad Y (fun Gw=>?_) (fun Gw=>?_)
  ·
   refine BJ (n:=12) (0::1::0::4::0::16::48::112::252::511::1023::2047::[]) 2304 AG AG V<|A2 0 V (AV (off:=13) BW V rfl DB Y)<|B2 1 V E0 Y ?_;first|(refine Bq (D':=7) 2 (Ag (j:=1) FA A5 Y Y ?_) ?_;(focus (first|omega|decide|(simp;done))))|(refine Bq (D':=7) 2 (BK (j:=1) FA A5 Y Y ?_) ?_;(focus (first|omega|decide|(simp;done))))
   refine B2 3 V AE Y ?_;refine A2 4 V (AV (off:=13) BW V rfl DB Y)<|B2 5 V E0 Y ?_;refine A2 6 V (AP DQ Y) ?_;first|(refine Bq (D':=255) 7 (Bp (n:=1) Y Y ?_) ?_;(focus (omega)))|(refine Bq (D':=255) 7 (EU Y Y (IntWalk.i64_in _ ?_)) ?_;(focus (omega)))
   refine Yz 8 252 511 [5,3,1] [false,false,true] [(1,(_,_))] V Y V rfl V rfl (Zu [_,_] Y S7 Y V (Mh w1 (Z.length+1) A0 A0 q8 qa)) ?_;rintro _ _ ⟨rfl,rfl⟩;refine ⟨Zk (Ae),?_⟩;obtain ⟨k8,Tm⟩:∃k,k=Bu w1 (Z.length+1):=⟨_,rfl⟩;rw [<-Tm];have hlk8:=Dm w1 (Z.length+1) A0
   rw [<-Tm]at hlk8;refine A2 9 rfl (Bc DQ DE Y Y CT)<|A2 10 rfl (AV (off:=13) BW rfl rfl DB Y)<|Zz (l:=[11])<|BE [false] [] rfl rfl (Zs DB Y Y rfl (hi:=by first|omega|decide|(simp;done))) ?_ (fun _ _ h=>h.elim) Ay;rintro _ _ ⟨rfl,rfl⟩;refine BT<|Ao<|Zn [2,4] ?_;refine A8<|Zn [2,4] ?_;refine Aq (e':=[]) (by exact ⟨⟨z.a.q,z.a.res,z.a.since,z.a.until_,z.a.base,z.a.ranges.take k8,z.a.recs⟩,_,_,_,_,_,_,_,_,_,_,_,[],⟨E _ _ _,nM (O _ _) k8 c1 A0 A0,G _ _,{hB.up with nr:=by simp only [zy];omega,rg:=fun x hx=>(hB.rg x (HI hx)).up}⟩,V,V⟩)
  refine Zq<|Zg ?_;first|refine Ap (Bb (n:=9) Y Y) ?_|refine Ap (Br Y Y) ?_
  refine AH Y<|Zx ?_;first|refine Ak Y (fun Hf=>?_) (fun Hf=>?_)|refine Ad Y (fun Hf=>?_) (fun Hf=>?_)
  ·
   have ht:=Us w2 3 AK;refine A1<|Zh 13 BW V rfl DB Y<|Zl E0 Y ?_;refine Zv (AP DQ Y) ?_;first|refine Ap (CO (n:=0) Y Y) ?_|refine Ap (EI Y Y) ?_
   refine Z0<|Zn [2,3,4,5,169] ?_;refine Zx ?_;first|refine Ak Y (fun hn9=>?_) (fun hn9=>?_)|refine Ad Y (fun hn9=>?_) (fun hn9=>?_)
   ·
    obtain ⟨gr,cr,ax,zr,d9,rfl,P7,Qd,g,bn⟩:=H8 bf A0;injection d9 with e1 _ e3
    subst e1 e3;obtain ⟨zk,m⟩:∃zk,Z[I]?=some zk:=⟨_,zn A0⟩;have K:=W zk (Cd m)
    have pg:=Jh K.1;have hgb:=hB.rg zk.x (by rw [<-hZx];exact O2 (Cd m))
    have qo:=hgb.nr;have vz:=hgb.nt
    have qg:=g (I*9+4) _ ((Ce zc9 m (by decide:4<9)).trans rfl);have qh:=g (I*9+5) _ ((Ce zc9 m (by decide:5<9)).trans rfl)
    have af:=g (I*9+6) _ ((Ce zc9 m (by decide:6<9)).trans rfl);have qz:=g (I*9+7) _ ((Ce zc9 m (by decide:7<9)).trans rfl)
    have ek:=g (I*9+8) _ ((Ce zc9 m (by decide:8<9)).trans rfl);refine BJ (n:=16) (0::1::0::0::8::0::56::120::248::0::512::1536::4088::8191::16383::32767::[]) 32768 AG AG V<|A2 0 V (AV (off:=13) BW V rfl DB Y)<|B2 1 V E0 Y ?_;refine A2 2 V (AJ Y)<|A2 3 V (AV (off:=13) BW V rfl DB Y)<|B2 4 V E0 Y ?_;refine A2 5 rfl (AJ Y)<|A2 6 rfl (AO DQ DE Y Y CT)<|A2 7 rfl (Aj (off:=5) C1 rfl rfl A5 Y)<|B2 8 rfl AE Y (hv:=by first|exact qh|(rw [C6];exact qh)) ?_;first|(refine Bq (D':=1023) 9 (Ag (j:=2) FA A5 Y Y ?_) ?_;(focus (first|omega|decide|(simp;done))))|(refine Bq (D':=1023) 9 (BK (j:=2) FA A5 Y Y ?_) ?_;(focus (first|omega|decide|(simp;done))))
    refine B2 10 V AE Y ?_;first|(refine Bq (D':=4095) 11 (De (n:=3) Y Y ?_) ?_;(focus (first|omega|(have:=hgb.fi;omega))))|(refine Bq (D':=4095) 11 (KH Y Y ?_ rfl) ?_;(focus (first|omega|(have:=hgb.fi;omega))))
    first|(refine Bq (D':=8191) 12 (Bp Y Y ?_) ?_;(focus (first|omega|(have:=hgb.fi;omega))))|(refine Bq (D':=8191) 12 (EU Y Y (IntWalk.i64_in _ ?_)) ?_;(focus (first|omega|(have:=hgb.fi;omega))))
    refine A2 13 rfl (AO DQ DE Y Y CT)<|A2 14 rfl (Aj (off:=5) C1 rfl rfl A5 Y)<|Zz (l:=[15])<|BE [false,false,false,false] [] rfl rfl (Zs A5 Y Y rfl (hi:=by first|omega|decide|(simp;done)) (hz:=by exact bn)) ?_ (fun _ _ h=>h.elim) Ay;rintro _ _ ⟨rfl,rfl⟩;refine BT<|Ao<|Zn [2,4] ?_;refine A8<|Zn [2,4] ?_;refine Aq (e':=[]) (by first|exact ⟨⟨z.a.q,z.a.res,z.a.since,z.a.until_,z.a.base,(Z.set I {zk with x:={zk.x with fi:=zk.x.fi+w2.tmod 3}}).map RPZ.x,z.a.recs⟩,_,_,_,_,_,_,_,_,_,_,_,[],⟨E _ _ _,Nu (BH (Hr bf (0+I*9+5) (I4 (zk.x.fi+w2.tmod 3))) (by rw [GS]) (by rw [C6];exact J7 zc9 m AK (b:={zk with x:={zk.x with fi:=zk.x.fi+w2.tmod 3}}) rfl)) (by rw [GS];omega) (Ol W (K.mono fun c hc=>hc)),G _ _,{hB.up with nr:=by have h:=hB.nr;rw [<-hZx]at h;simp only [zu,GS]at h⊢;omega,rg:=SA (by rw [hZx];exact hB.rg) {hgb.up with fi:=by have:=hgb.fi;simp only;omega}}⟩,rfl,rfl⟩|exact ⟨⟨z.a.q,z.a.res,z.a.since,z.a.until_,z.a.base,z.a.ranges,z.a.recs⟩,_,_,_,_,_,_,_,_,_,_,_,[],⟨E _ _ _,O _ _,G _ _,hB.up⟩,rfl,rfl⟩)
   refine AB<|A8<|Zn [2,4] ?_;refine Aq (e':=[]) (by exact ⟨⟨z.a.q,z.a.res,z.a.since,z.a.until_,z.a.base,z.a.ranges,z.a.recs⟩,_,_,_,_,_,_,_,_,_,_,_,[],⟨E _ _ _,O _ _,G _ _,hB.up⟩,V,V⟩)
  refine Zq<|Zg ?_;first|refine Ap (Bb (n:=10) Y Y) ?_|refine Ap (Br Y Y) ?_
  refine AH Y<|Zx ?_;first|refine Ak Y (fun HZ=>?_) (fun HZ=>?_)|refine Ad Y (fun HZ=>?_) (fun HZ=>?_)
  ·
   have ht:=Us w2 3 AK;refine A1<|Zh 13 BW V rfl DB Y<|Zl E0 Y ?_;refine Zv (AP DQ Y) ?_;first|refine Ap (CO (n:=0) Y Y) ?_|refine Ap (EI Y Y) ?_
   refine Z0<|Zn [2,3,4,5,190] ?_;refine Zx ?_;first|refine Ak Y (fun tT=>?_) (fun tT=>?_)|refine Ad Y (fun tT=>?_) (fun tT=>?_)
   ·
    obtain ⟨gr,cr,ax,zr,d9,rfl,P7,Qd,g,bn⟩:=H8 bf A0;injection d9 with e1 _ e3
    subst e1 e3;obtain ⟨zk,m⟩:∃zk,Z[I]?=some zk:=⟨_,zn A0⟩;have K:=W zk (Cd m)
    have pg:=Jh K.1;have hgb:=hB.rg zk.x (by rw [<-hZx];exact O2 (Cd m))
    have qo:=hgb.nr;have vz:=hgb.nt
    have qg:=g (I*9+4) _ ((Ce zc9 m (by decide:4<9)).trans rfl);have qh:=g (I*9+5) _ ((Ce zc9 m (by decide:5<9)).trans rfl)
    have af:=g (I*9+6) _ ((Ce zc9 m (by decide:6<9)).trans rfl);have qz:=g (I*9+7) _ ((Ce zc9 m (by decide:7<9)).trans rfl)
    have ek:=g (I*9+8) _ ((Ce zc9 m (by decide:8<9)).trans rfl);refine BJ (n:=16) (0::1::0::0::8::0::56::120::248::0::512::1536::4088::8191::16383::32767::[]) 32768 AG AG V<|A2 0 V (AV (off:=13) BW V rfl DB Y)<|B2 1 V E0 Y ?_;refine A2 2 V (AJ Y)<|A2 3 V (AV (off:=13) BW V rfl DB Y)<|B2 4 V E0 Y ?_;refine A2 5 rfl (AJ Y)<|A2 6 rfl (AO DQ DE Y Y CT)<|A2 7 rfl (Aj (off:=4) C1 rfl rfl A5 Y)<|B2 8 rfl AE Y (hv:=by first|exact qg|(rw [C6];exact qg)) ?_;first|(refine Bq (D':=1023) 9 (Ag (j:=2) FA A5 Y Y ?_) ?_;(focus (first|omega|decide|(simp;done))))|(refine Bq (D':=1023) 9 (BK (j:=2) FA A5 Y Y ?_) ?_;(focus (first|omega|decide|(simp;done))))
    refine B2 10 V AE Y ?_;first|(refine Bq (D':=4095) 11 (De (n:=3) Y Y ?_) ?_;(focus (first|omega|(have:=hgb.ct;omega))))|(refine Bq (D':=4095) 11 (KH Y Y ?_ rfl) ?_;(focus (first|omega|(have:=hgb.ct;omega))))
    first|(refine Bq (D':=8191) 12 (Bp Y Y ?_) ?_;(focus (first|omega|(have:=hgb.ct;omega))))|(refine Bq (D':=8191) 12 (EU Y Y (IntWalk.i64_in _ ?_)) ?_;(focus (first|omega|(have:=hgb.ct;omega))))
    refine A2 13 rfl (AO DQ DE Y Y CT)<|A2 14 rfl (Aj (off:=4) C1 rfl rfl A5 Y)<|Zz (l:=[15])<|BE [false,false,false,false] [] rfl rfl (Zs A5 Y Y rfl (hi:=by first|omega|decide|(simp;done)) (hz:=by exact bn)) ?_ (fun _ _ h=>h.elim) Ay;rintro _ _ ⟨rfl,rfl⟩;refine BT<|Ao<|Zn [2,4] ?_;refine A8<|Zn [2,4] ?_;refine Aq (e':=[]) (by first|exact ⟨⟨z.a.q,z.a.res,z.a.since,z.a.until_,z.a.base,(Z.set I {zk with x:={zk.x with ct:=zk.x.ct+w2.tmod 3}}).map RPZ.x,z.a.recs⟩,_,_,_,_,_,_,_,_,_,_,_,[],⟨E _ _ _,Nu (BH (Hr bf (0+I*9+4) (I4 (zk.x.ct+w2.tmod 3))) (by rw [GS]) (by rw [C6];exact J7 zc9 m AK (b:={zk with x:={zk.x with ct:=zk.x.ct+w2.tmod 3}}) rfl)) (by rw [GS];omega) (Ol W (K.mono fun c hc=>hc)),G _ _,{hB.up with nr:=by have h:=hB.nr;rw [<-hZx]at h;simp only [zu,GS]at h⊢;omega,rg:=SA (by rw [hZx];exact hB.rg) {hgb.up with ct:=by have:=hgb.ct;simp only;omega}}⟩,rfl,rfl⟩|exact ⟨⟨z.a.q,z.a.res,z.a.since,z.a.until_,z.a.base,z.a.ranges,z.a.recs⟩,_,_,_,_,_,_,_,_,_,_,_,[],⟨E _ _ _,O _ _,G _ _,hB.up⟩,rfl,rfl⟩)
   refine AB<|A8<|Zn [2,4] ?_;refine Aq (e':=[]) (by exact ⟨⟨z.a.q,z.a.res,z.a.since,z.a.until_,z.a.base,z.a.ranges,z.a.recs⟩,_,_,_,_,_,_,_,_,_,_,_,[],⟨E _ _ _,O _ _,G _ _,hB.up⟩,V,V⟩)
  refine Zq<|Zg ?_;first|refine Ap (Bb (n:=11) Y Y) ?_|refine Ap (Br Y Y) ?_
  refine AH Y<|Zn [2,3,4,5,34,206] ?_;refine Zx ?_;first|refine Ak Y (fun L9=>?_) (fun L9=>?_)|refine Ad Y (fun L9=>?_) (fun L9=>?_)
  ·
   refine A1<|Zh 13 BW V rfl DB Y<|Zl E0 Y ?_;refine Zv (AP DQ Y) ?_;first|refine Ap (CO (n:=0) Y Y) ?_|refine Ap (EI Y Y) ?_
   refine Zm Y ?_;first|refine Ai (t:=212) Y rfl (fun ve=>?_) (fun ve=>?_)|refine Ah (t:=212) Y rfl (fun ve=>?_) (fun ve=>?_)
   ·
    obtain ⟨gr,cr,ax,zr,d9,rfl,P7,Qd,g,bn⟩:=H8 bf A0;injection d9 with e1 _ e3
    subst e1 e3;obtain ⟨zk,m⟩:∃zk,Z[I]?=some zk:=⟨_,zn A0⟩;have K:=W zk (Cd m)
    have pg:=Jh K.1;have hgb:=hB.rg zk.x (by rw [<-hZx];exact O2 (Cd m))
    have qo:=hgb.nr;have vz:=hgb.nt
    have qg:=g (I*9+4) _ ((Ce zc9 m (by decide:4<9)).trans rfl);have qh:=g (I*9+5) _ ((Ce zc9 m (by decide:5<9)).trans rfl)
    have af:=g (I*9+6) _ ((Ce zc9 m (by decide:6<9)).trans rfl);have qz:=g (I*9+7) _ ((Ce zc9 m (by decide:7<9)).trans rfl)
    have ek:=g (I*9+8) _ ((Ce zc9 m (by decide:8<9)).trans rfl);refine Yf 13 BW V rfl DB Y<|Yl E0 Y ?_;refine Zf Y Y ?_
    (refine DV Y (AO DQ DE Y Y ?_) rfl rfl ?_;(focus (first|omega|decide|(simp;done))))
    refine Yg (Aj (off:=6) C1 rfl rfl C4 Y)<|Yl DO Y (hv:=by first|exact af|(rw [C6];exact af)) ?_;refine Yg (AP B4 Y) ?_;first|refine DV Y (CO (n:=0) Y Y) rfl rfl ?_|refine DV Y (EI Y Y) rfl rfl ?_
    refine Zv (AR Y Y)<|Z0<|Zn [2,3,4,5,221] ?_;refine Zx ?_;first|refine Ak Y (fun sj=>?_) (fun sj=>?_)|refine Ad Y (fun sj=>?_) (fun sj=>?_)
    ·
     refine Zq<|BJ (n:=11) (0::1::0::4::0::28::60::124::252::511::1023::[]) 512 AG AG V ?_;first|(refine Bq (D':=1) 0 (Ag (j:=2) FA A5 Y Y ?_) ?_;(focus (first|omega|decide|(simp;done))))|(refine Bq (D':=1) 0 (BK (j:=2) FA A5 Y Y ?_) ?_;(focus (first|omega|decide|(simp;done))))
     refine B2 1 V AE Y ?_;refine A2 2 V (AV (off:=13) BW V rfl DB Y)<|B2 3 V E0 Y ?_;refine A2 4 rfl (AJ Y)<|A2 5 rfl (AO DQ DE Y Y CT)<|A2 6 rfl (Aj (off:=6) C1 rfl rfl C4 Y)<|B2 7 rfl DO Y (hv:=by first|exact af|(rw [C6];exact af)) ?_;refine A2 8 V (AP B4 Y)<|Zz (l:=[9])<|BE [false,false,false] [] V rfl (Zu [_,_] Y S7 Y V (Mh w2 zk.x.rows.length A0 (by have:=hgb.nr;omega) qb qc)) ?_ (fun _ _ h=>h.elim) Ay;rintro _ _ ⟨rfl,rfl⟩;refine ⟨Ae,?_⟩;obtain ⟨l8,y5⟩:∃k,k=Bu w2 zk.x.rows.length:=⟨_,rfl⟩;rw [<-y5];have hlm11:=Dm w2 zk.x.rows.length A0
     rw [<-y5]at hlm11;refine A2 10 V (BF Y)<|Ao<|Zx<|Zq<|BJ (n:=26) (0::1::0::0::0::16::0::112::240::496::0::2032::4088::0::8192::0::57344::122880::253952::0::524288::2088960::4194296::8388607::16777215::33554431::[]) 37752840 AG AG V<|A2 0 V (AV (off:=13) BW V rfl DB Y)<|B2 1 V E0 Y ?_;refine A2 2 V (AJ Y)<|A2 4 V (AV (off:=13) BW V rfl DB Y)<|B2 5 V E0 Y ?_;refine A2 6 rfl (AJ Y)<|A2 7 rfl (AO DQ DE Y Y CT)<|A2 8 rfl (Aj (off:=6) C1 rfl rfl C4 Y)<|B2 9 rfl DO Y (hv:=by first|exact af|(rw [C6];exact af)) ?_;refine A2 10 rfl (AJ Y)<|A2 11 rfl (Bc B4 Ax Y Y CT)<|A2 13 rfl (AV (off:=13) BW rfl rfl DB Y)<|B2 14 rfl E0 Y ?_;refine A2 15 rfl (AJ Y)<|A2 16 rfl (AO DQ DE Y Y CT)<|A2 17 rfl (Aj (off:=6) C1 rfl rfl C4 Y)<|B2 18 rfl DO Y (hv:=by first|exact af|(rw [C6];exact af)) ?_;refine A2 19 V (AJ Y) ?_;first|(refine Bq (D':=2093047) 20 (Bp (n:=1) Y Y ?_) ?_;(focus (omega)))|(refine Bq (D':=2093047) 20 (EU Y Y (IntWalk.i64_in _ ?_)) ?_;(focus (omega)))
     refine A2 21 rfl (Bn B4 Ax Y Y CT)<|Yz 3 0 4190207 [18,14,9,5,1] [true,true,true,true,true] [(18,(_,_)),(14,(_,_)),(9,(_,_)),(5,(_,_)),(1,(_,_))] rfl Y rfl rfl rfl rfl (EN B4 Ax)<|AF fun gb11=>BT<|Yz 12 4088 4194303 [18,14,9,5,1] [true,true,false,false,true] [(18,(_,_)),(14,(_,_)),(1,(_,_))] rfl Y rfl rfl rfl rfl (Fs (by_:=40) (sz:=5) B4 (rfl:Tryz.prog.info? 98=some Tryz.t98) rfl rfl rfl rfl Y (EX 5 98 gb11 0 [] rfl AK) Y (K8 (VB K.1 l8 zk.cr A0 (by have:=Jh K.1;omega))) (by rw [BG,zy];omega) AK Wo Wo (by exact CE _) A0 A0) ?_;rintro _ _ ⟨sd1,za,rfl⟩;refine ⟨Zk (Zk (Zk (Ae))),?_⟩;have qo:=hgb.nr
     replace za:=BH (n':=l8) za A0 (L5 _);refine Yz 22 4194296 8388607 [18,14,1] [false,false,true] [(1,(_,_))] rfl Y rfl rfl rfl rfl (Fs (by_:=40) (sz:=5) B4 (rfl:Tryz.prog.info? 98=some Tryz.t98) rfl rfl rfl rfl Y (za) Y (K8 (bT K.1 (l8+1) A0)) (by rw [BG,C0]) AK Wo Wo (by exact CE _) A0 A0) ?_;rintro _ _ ⟨sd2,o9,rfl⟩;refine ⟨Zk (Ae),?_⟩;obtain ⟨rs,hrs⟩:∃l,l=zk.x.rows.take l8++zk.x.rows.drop (l8+1):=⟨_,rfl⟩;have hrsl:rs.length=l8+(zk.x.rows.length -(l8+1)):=by rw [hrs,zq,zy,C0];omega
     replace o9:=BH (n':=rs.length) (xs':=Ac rs) o9 hrsl.symm (by rw [hrs,Bf]);obtain ⟨gd,cd,rfl⟩:=o9.form;obtain ⟨U,J⟩:∃c,ax.setIfInBounds (0+I*9+6) (.slice gd rs.length cd)=c:=⟨_,rfl⟩;have zh:U.size=ax.size:=by rw [<-J,dv]
     have Pn:U[0+I*9+7]?=some (.slice zk.qp zk.x.paths.length zk.cp):=by rw [<-J,Array.getElem?_setIfInBounds_ne A0,C6];exact qz
     have gm:U[0+I*9+6]?=some (.slice gd rs.length cd):=by rw [<-J];exact Wd A0
     obtain ⟨X,cu⟩:∃z:RPZ,z={zk with x:={zk.x with rows:=rs},qr:=gd,cr:=cd}:=⟨_,rfl⟩;have h11:BZ 9 87 (I6 gr Z.length c1) (Z.set I X).length ((Z.set I X).flatMap El) [(gr,.cells U 87 zr)]:=by rw [<-J];exact BH (Hr bf (0+I*9+6) _) (by rw [GS]) (by rw [C6];exact J7 zc9 m AK (b:=X) (by rw [cu];rfl))
     have cO:X.ok (sd2++M):=by rw [cu];exact ⟨(D6 o9 A0).mono fun c hc=>E3 _ hc,K.2.1.mono fun c hc=>DA _ hc,K.2.2.mono fun c hc=>DA _ hc⟩
     have Qe:RgB X.x (n+1):=by rw [cu];exact {hgb.up with nr:=by(try simp only);omega,rv:=fun r hr=>hgb.up.rv r (by simp only [hrs]at hr;rcases DM.1 hr with h|h;exact HI h;exact ID h)}
     have hx11:(Z.set I X)[I]?=some X:=by rw [List.getElem?_set_self A0]
     refine A2 23 rfl (AO DQ DE Y Y CT)<|A2 24 rfl (Aj (off:=6) C1 rfl rfl C4 Y)<|Zz (l:=[25])<|BE [false] [] rfl rfl (Zs C4 Y Y rfl (hc:=by exact J) (hi:=by first|omega|decide|(simp;done)) (hz:=by exact bn)) ?_ (fun _ _ h=>h.elim) Ay;rintro _ _ ⟨rfl,rfl⟩;refine BT<|Ao<|Zn [2,4,5] ?_;refine Zx ?_;obtain ⟨kp,hkp⟩:∃k,k=min zk.x.paths.length rs.length:=⟨_,rfl⟩;have hkl:kp<=zk.x.paths.length:=by omega
     obtain ⟨pt,hpt⟩:∃l,l=zk.x.paths.take kp:=⟨_,rfl⟩;have Rl:pt.length=kp:=by rw [hpt,zy];omega
     have hle7:=IU K.2.1;obtain ⟨cur3,qA⟩:∃c,U.setIfInBounds (0+I*9+7) (.slice zk.qp (min zk.x.paths.length rs.length) zk.cp)=c:=⟨_,rfl⟩;obtain ⟨l9,zl⟩:∃z:RPZ,z={X with x:={X.x with paths:=pt}}:=⟨_,rfl⟩;have h12:BZ 9 87 (I6 gr Z.length c1) ((Z.set I X).set I l9).length (((Z.set I X).set I l9).flatMap El) [(gr,.cells cur3 87 zr)]:=by rw [<-qA];exact BH (Hr (BH (n':=Z.length) h11 (by rw [GS]) rfl) (0+I*9+7) _) (by rw [GS,GS]) (by rw [C6];exact J7 zc9 hx11 AK (b:=l9) (by rw [<-hkp,<-Rl,zl,cu];rfl))
     have hok12:∀y∈(Z.set I X).set I l9,y.ok (sd2++M):=fun y hy=>by
      rcases W4 hy with h|rfl
      · exact Ol W cO y h
      · rw [zl]
        refine ⟨cO.1,?_,cO.2.2⟩;have h9:=dC (cO.2.1) kp X.cp (by rw [cu];exact hkl) (by rw [cu];show kp<=zk.cp;omega)
        show G5 (sd2++M) (.slice X.qp pt.length X.cp) pt;rw [Rl];rw [cu]at h9⊢;rw [hpt];exact h9
     have hg12:RgB l9.x (n+1):=by rw [zl];exact {Qe with np:=by have:=hgb.np;simp only;omega,pl:=fun l hl=>hgb.pl l (by simp only [hpt]at hl;exact HI hl)}
     have hrg12:∀x∈((Z.set I X).set I l9).map RPZ.x,RgB x (n+1):=fun x hx=>by
      obtain ⟨y,hy,rfl⟩:=GB.1 hx;rcases W4 hy with h|rfl
      · exact SA (by rw [hZx];exact hB.rg) Qe _ (O2 h)
      · exact hg12
     refine BJ (n:=28) (0::1::0::0::8::0::56::120::248::0::512::0::3584::7680::15872::32256::0::65536::0::458752::983040::2031616::4128768::8388096::16777208::33554431::67108863::134217727::[]) 134217728 AG AG V<|A2 0 V (AV (off:=13) BW V rfl DB Y)<|B2 1 V E0 Y ?_;refine A2 2 V (AJ Y)<|A2 3 V (AV (off:=13) BW V rfl DB Y)<|B2 4 V E0 Y ?_;refine A2 5 rfl (AJ Y)<|A2 6 rfl (AO DQ DE Y Y (by first|omega|exact aE ..|(simp;omega)|(have:=IU K.2.1;omega)))<|A2 7 rfl (Aj (off:=7) C1 rfl rfl Ln Y)<|B2 8 rfl W0 Y (hv:=by first|exact Pn|(rw [C6];exact Pn)) ?_;refine A2 9 V (AV (off:=13) BW V rfl DB Y)<|B2 10 V E0 Y ?_;refine A2 11 rfl (AJ Y)<|A2 12 rfl (AO DQ DE Y Y (by first|omega|exact aE ..|(simp;omega)|(have:=IU K.2.1;omega)))<|A2 13 rfl (Aj (off:=7) C1 rfl rfl Ln Y)<|B2 14 rfl W0 Y (hv:=by first|exact Pn|(rw [C6];exact Pn)) ?_;refine A2 15 V (AP Lk Y)<|A2 16 V (AV (off:=13) BW V rfl DB Y)<|B2 17 V E0 Y ?_;refine A2 18 rfl (AJ Y)<|A2 19 rfl (AO DQ DE Y Y (by first|omega|exact aE ..|(simp;omega)|(have:=IU K.2.1;omega)))<|A2 20 rfl (Aj (off:=6) C1 rfl rfl C4 Y)<|B2 21 rfl DO Y (hv:=by first|exact gm|(rw [C6];exact gm)) ?_;refine A2 22 V (AP B4 Y) ?_;first|refine Bq (D':=16777215) 23 (Ky Y Y) ?_|refine Bq (D':=16777215) 23 (Vb Y Y) ?_
     refine A2 24 rfl (Bc Lk HM Y Y (by first|omega|exact aE ..|(simp;omega)|(have:=IU K.2.1;omega)))<|A2 25 rfl (AO DQ DE Y Y (by first|omega|exact aE ..|(simp;omega)|(have:=IU K.2.1;omega)))<|A2 26 rfl (Aj (off:=7) C1 rfl rfl Ln Y)<|Zz (l:=[27])<|BE [false,false,false,false,false,false,false] [] rfl rfl (Zs Ln Y Y rfl (hc:=by exact qA) (hi:=by first|omega|exact aE ..|(simp;omega)|(have:=IU K.2.1;omega)) (hz:=by first|exact bn|(rw [zh];exact bn))) ?_ (fun _ _ h=>h.elim) Ay;rintro _ _ ⟨rfl,rfl⟩;refine BT<|Ao<|Zn [2,4] ?_;refine A8<|Zn [2,4] ?_;refine Aq (e':=[]) (by first|exact ⟨⟨z.a.q,z.a.res,z.a.since,z.a.until_,z.a.base,((Z.set I X).set I l9).map RPZ.x,z.a.recs⟩,_,_,_,_,_,_,_,_,_,_,_,_,⟨E _ _ _,Nu h12 (by rw [GS,GS];omega) hok12,G _ _,{hB.up with nr:=by have h:=hB.nr;rw [<-hZx]at h;simp only [zu,GS]at h⊢;omega,rg:=hrg12}⟩,rfl,rfl⟩|exact ⟨⟨z.a.q,z.a.res,z.a.since,z.a.until_,z.a.base,z.a.ranges,z.a.recs⟩,_,_,_,_,_,_,_,_,_,_,_,[],⟨E _ _ _,O _ _,G _ _,hB.up⟩,rfl,rfl⟩)
    refine AB<|A8<|Zn [2,4] ?_;refine Aq (e':=[]) (by exact ⟨⟨z.a.q,z.a.res,z.a.since,z.a.until_,z.a.base,z.a.ranges,z.a.recs⟩,_,_,_,_,_,_,_,_,_,_,_,[],⟨E _ _ _,O _ _,G _ _,hB.up⟩,V,V⟩)
   refine A7 Y V<|A7 Y V<|A7 Y V<|A7 Y V<|A7 Y V<|A7 Y V<|A7 Y V<|A7 Y V<|Zv (AL Y Y)<|Z0<|Zn [2,3,4,5,221] ?_;refine Zx<|Dj Y<|AB<|A8<|Zn [2,4] ?_;refine Aq (e':=[]) (by exact ⟨⟨z.a.q,z.a.res,z.a.since,z.a.until_,z.a.base,z.a.ranges,z.a.recs⟩,_,_,_,_,_,_,_,_,_,_,_,[],⟨E _ _ _,O _ _,G _ _,hB.up⟩,V,V⟩)
  refine Zq<|Zg ?_;first|refine Ap (Bb (n:=12) Y Y) ?_|refine Ap (Br Y Y) ?_
  refine AH Y<|Zx ?_;first|refine Ak Y (fun MC=>?_) (fun MC=>?_)|refine Ad Y (fun MC=>?_) (fun MC=>?_)
  ·
   refine A1<|Zh 13 BW V rfl DB Y<|Zl E0 Y ?_;refine Zv (AP DQ Y) ?_;first|refine Ap (CO (n:=0) Y Y) ?_|refine Ap (EI Y Y) ?_
   refine Zm Y ?_;first|refine Ai (t:=290) Y rfl (fun vo=>?_) (fun vo=>?_)|refine Ah (t:=290) Y rfl (fun vo=>?_) (fun vo=>?_)
   ·
    obtain ⟨gr,cr,ax,zr,d9,rfl,P7,Qd,g,bn⟩:=H8 bf A0;injection d9 with e1 _ e3
    subst e1 e3;obtain ⟨zk,m⟩:∃zk,Z[I]?=some zk:=⟨_,zn A0⟩;have K:=W zk (Cd m)
    have pg:=Jh K.1;have hgb:=hB.rg zk.x (by rw [<-hZx];exact O2 (Cd m))
    have qo:=hgb.nr;have vz:=hgb.nt
    have qg:=g (I*9+4) _ ((Ce zc9 m (by decide:4<9)).trans rfl);have qh:=g (I*9+5) _ ((Ce zc9 m (by decide:5<9)).trans rfl)
    have af:=g (I*9+6) _ ((Ce zc9 m (by decide:6<9)).trans rfl);have qz:=g (I*9+7) _ ((Ce zc9 m (by decide:7<9)).trans rfl)
    have ek:=g (I*9+8) _ ((Ce zc9 m (by decide:8<9)).trans rfl);refine Yf 13 BW V rfl DB Y<|Yl E0 Y ?_;refine Zf Y Y ?_
    (refine DV Y (AO DQ DE Y Y ?_) rfl rfl ?_;(focus (first|omega|decide|(simp;done))))
    refine Yg (Aj (off:=6) C1 rfl rfl C4 Y)<|Yl DO Y (hv:=by first|exact af|(rw [C6];exact af)) ?_;refine Yg (AP B4 Y) ?_;first|refine DV Y (CO (n:=0) Y Y) rfl rfl ?_|refine DV Y (EI Y Y) rfl rfl ?_
    refine Zv (AR Y Y)<|Z0<|Zn [2,3,4,5,299] ?_;refine Zx ?_;first|refine Ak Y (fun sw=>?_) (fun sw=>?_)|refine Ad Y (fun sw=>?_) (fun sw=>?_)
    ·
     refine Zq<|BJ (n:=14) (0::1::0::0::0::16::0::112::240::496::1016::2047::4095::8191::[]) 9224 AG AG V<|A2 0 V (AV (off:=13) BW V rfl DB Y)<|B2 1 V E0 Y ?_;refine A2 2 V (AJ Y)<|A2 4 V (AV (off:=13) BW V rfl DB Y)<|B2 5 V E0 Y ?_;refine A2 6 rfl (AJ Y)<|A2 7 rfl (AO DQ DE Y Y CT)<|A2 8 rfl (Aj (off:=6) C1 rfl rfl C4 Y)<|B2 9 rfl DO Y (hv:=by first|exact af|(rw [C6];exact af)) ?_;refine Yz 3 0 1023 [9,5,1] [true,true,true] [(9,(_,_)),(5,(_,_)),(1,(_,_))] V Y V rfl V rfl (EN B4 Ax)<|AF fun gb12=>BT<|Yz 10 1016 2047 [9,5,1] [false,false,true] [(1,(_,_))] V Y V rfl V rfl (Fs (by_:=40) (sz:=5) B4 (V:Tryz.prog.info? 98=some Tryz.t98) V rfl V rfl Y (EX 5 98 gb12 0 [] V AK) Y (K8 K.1) (by exact BG _) AK Wo Wo (by exact CE _) (by have:=hgb.nr;omega) (by have:=hgb.nr;omega)) ?_;rintro _ _ ⟨sd3,p8,rfl⟩;refine ⟨Zk (Ae),?_⟩;have qo:=hgb.nr
     replace p8:=BH (n':=zk.x.rows.length) p8 A0 (L5 _);obtain ⟨g5,c5,cur5,zz5,rfl,rfl,hc59,hs5,hin5,hf5⟩:=H8 p8 A0;obtain ⟨U,J⟩:∃c,ax.setIfInBounds (0+I*9+6) (I6 g5 zk.x.rows.length c5)=c:=⟨_,rfl⟩;have zh:U.size=ax.size:=by rw [<-J,dv]
     have gm:U[0+I*9+6]?=some (I6 g5 zk.x.rows.length c5):=by rw [<-J];exact Wd A0
     refine A2 11 rfl (AO DQ DE Y Y CT)<|A2 12 rfl (Aj (off:=6) C1 rfl rfl C4 Y)<|Zz (l:=[13])<|BE [false] [] rfl rfl (Zs C4 Y Y rfl (hc:=by exact J) (hi:=by first|omega|decide|(simp;done)) (hz:=by exact bn)) ?_ (fun _ _ h=>h.elim) Ay;rintro _ _ ⟨rfl,rfl⟩;refine BT<|Ao<|Zn [2,3,4,5] ?_;refine Zx<|BJ (n:=28) (0::1::0::7::15::31::0::64::0::256::0::1792::3840::7936::16128::32704::0::65536::262080::65535::589823::2097151::4194303::8388607::65535::16842751::67108863::134217727::[]) 134512640 AG AG V<|A2 0 V (AV (off:=13) BW V rfl DB Y)<|B2 1 V E0 Y ?_;refine A2 2 rfl (AJ Y)<|A2 3 rfl (AO DQ DE Y Y (by first|omega|(simp;omega)))<|A2 4 rfl (Aj (off:=6) C1 rfl rfl C4 Y)<|B2 5 rfl DO Y (hv:=by first|exact gm|(rw [C6];exact gm)) ?_;first|(refine Bq (D':=127) 6 (Ag (j:=2) FA A5 Y Y ?_) ?_;(focus (first|omega|(simp;omega))))|(refine Bq (D':=127) 6 (BK (j:=2) FA A5 Y Y ?_) ?_;(focus (first|omega|(simp;omega))))
     refine B2 7 V AE Y ?_;refine A2 8 V (AV (off:=13) BW V rfl DB Y)<|B2 9 V E0 Y ?_;refine A2 10 rfl (AJ Y)<|A2 11 rfl (AO DQ DE Y Y (by first|omega|(simp;omega)))<|A2 12 rfl (Aj (off:=6) C1 rfl rfl C4 Y)<|B2 13 rfl DO Y (hv:=by first|exact gm|(rw [C6];exact gm)) ?_;refine A2 14 V (AP B4 Y) ?_;first|(refine Bq (D':=98303) 16 (Ag (j:=3) FA A5 Y Y ?_) ?_;(focus (first|omega|(simp;omega))))|(refine Bq (D':=98303) 16 (BK (j:=3) FA A5 Y Y ?_) ?_;(focus (first|omega|(simp;omega))))
     refine B2 17 V AE Y ?_;refine Yz 15 32704 262143 [17,13,9,7,5,1] [true,false,false,false,true,true] [(17,(_,_)),(5,(_,_)),(1,(_,_))] V Y V rfl V rfl (Zu [_,_] Y S7 Y V (Mh w2 zk.x.rows.length A0 A0 qb qc)) ?_;rintro _ _ ⟨rfl,rfl⟩;refine ⟨Zk (Zk (Zk (Ae))),?_⟩;obtain ⟨i12,wo⟩:∃k,k=Bu w2 zk.x.rows.length:=⟨_,rfl⟩;rw [<-wo];have hli12:=Dm w2 zk.x.rows.length A0
     rw [<-wo]at hli12;refine A2 19 rfl (AO B4 Ax Y Y (by first|omega|(simp;omega)))<|A2 20 rfl (Aj (off:=2) Ds rfl rfl CD Y)<|A2 24 rfl (AO B4 Ax Y Y (by first|omega|(simp;omega)))<|A2 25 rfl (Aj (off:=2) Ds rfl rfl CD Y)<|Zz (l:=[18])<|BE [false,true,true] [(5,(_,_)),(1,(_,_))] rfl rfl (Zu [_,_] Y S7 Y rfl (Mh w3 3 AK AK h3a h3b)) ?_ (fun _ _ h=>h.elim) Ay;rintro _ _ ⟨rfl,rfl⟩;refine ⟨Zk (Zk (Ae)),?_⟩;obtain ⟨j12,x9⟩:∃k,k=Bu w3 3:=⟨_,rfl⟩;rw [<-x9];have gq:=Dm w3 3 AK
     rw [<-x9]at gq;obtain ⟨r12,yt⟩:∃r,zk.x.rows[i12]?=some r:=⟨_,zn A0⟩;have hv12:=hgb.rv r12 (Cd yt)
     have hvj:-(1000000000+(n:Int))<=bF r12 j12/\bF r12 j12<=1000000000+(n:Int):=by unfold bF;split;exact hv12.1;split;exact hv12.2.1;exact hv12.2.2
     have r9:=hin5 (i12*5+(2+j12)) _ ((KA yt (2+j12) A0).trans (iy r12 gq));rw [<-SU]at r9;obtain ⟨qw,gy⟩:∃z:RPZ,z={zk with x:={zk.x with rows:=zk.x.rows.set i12 (Ns r12 j12)},qr:=some ⟨g5,0,none⟩,cr:=c5}:=⟨_,rfl⟩;have h13:BZ 9 87 (I6 gr Z.length c1) (Z.set I qw).length ((Z.set I qw).flatMap El) [(gr,.cells U 87 zr)]:=by rw [<-J];exact BH (Hr bf (0+I*9+6) _) (by rw [GS]) (by rw [C6];exact J7 zc9 m AK (b:=qw) (by rw [gy];unfold El;simp only [GS];rfl))
     have hz13:qw.ok ([(g5,.cells (cur5.setIfInBounds (0+i12*5+2+j12*1) (I4 (bF r12 j12+1))) 98 zz5)]++M):=by
      rw [gy];refine ⟨?_,K.2.1.mono fun c hc=>DA _ hc,K.2.2.mono fun c hc=>DA _ hc⟩;exact (D6 (BH (n':=(zk.x.rows.set i12 (Ns r12 j12)).length) (Hr p8 (0+i12*5+2+j12*1) (I4 (bF r12 j12+1))) (by rw [GS]) (by rw [C6,Iv,SU];exact Wm yt A0 (fE r12 gq))) (by rw [GS];omega)).mono (fun c hc=>E3 _ hc)|>fun h=>by simpa only [GS]using h
     have hg13:RgB qw.x (n+1):=by rw [gy];exact {hgb.up with nr:=by simp only [GS];omega,rv:=fun r hr=>by rcases W4 hr with h|rfl;exact hgb.up.rv r h;exact vR _ hv12}
     first|(refine Bq (D':=54525951) 21 (Ag G1 A5 Y Y ?_) ?_;(focus (first|omega|(simp;omega))))|(refine Bq (D':=54525951) 21 (BK G1 A5 Y Y ?_) ?_;(focus (first|omega|(simp;omega))))
     refine B2 22 rfl AE Y (hv:=by first|exact r9|(rw [Iv];exact r9)|(rw [C6];exact r9)|(rw [C6,Iv];exact r9)) ?_;first|(refine Bq (D':=67108863) 23 (Bp (n:=1) Y Y ?_) ?_;(focus (omega)))|(refine Bq (D':=67108863) 23 (EU Y Y (IntWalk.i64_in _ ?_)) ?_;(focus (omega)))
     first|(refine Bq (D':=134217727) 26 (Ag G1 A5 Y Y ?_) ?_;(focus (first|omega|(simp;omega))))|(refine Bq (D':=134217727) 26 (BK G1 A5 Y Y ?_) ?_;(focus (first|omega|(simp;omega))))
     refine Yw 27 268435455 rfl (Zs A5 Y Y rfl (hi:=by first|omega|(simp;omega)) (hz:=by exact hf5))<|C3<|Ao<|Zn [2,4] ?_;refine A8<|Zn [2,4] ?_;refine Aq (e':=[]) (by first|exact ⟨⟨z.a.q,z.a.res,z.a.since,z.a.until_,z.a.base,(Z.set I qw).map RPZ.x,z.a.recs⟩,_,_,_,_,_,_,_,_,_,_,_,_,⟨E _ _ _,Nu h13 (by rw [GS];omega) (Ol W hz13),G _ _,{hB.up with nr:=by have h:=hB.nr;rw [<-hZx]at h;simp only [zu,GS]at h⊢;omega,rg:=SA (by rw [hZx];exact hB.rg) hg13}⟩,rfl,rfl⟩|exact ⟨⟨z.a.q,z.a.res,z.a.since,z.a.until_,z.a.base,z.a.ranges,z.a.recs⟩,_,_,_,_,_,_,_,_,_,_,_,[],⟨E _ _ _,O _ _,G _ _,hB.up⟩,rfl,rfl⟩)
    refine AB<|A8<|Zn [2,4] ?_;refine Aq (e':=[]) (by exact ⟨⟨z.a.q,z.a.res,z.a.since,z.a.until_,z.a.base,z.a.ranges,z.a.recs⟩,_,_,_,_,_,_,_,_,_,_,_,[],⟨E _ _ _,O _ _,G _ _,hB.up⟩,V,V⟩)
   refine A7 Y V<|A7 Y V<|A7 Y V<|A7 Y V<|A7 Y V<|A7 Y V<|A7 Y V<|A7 Y V<|Zv (AL Y Y)<|Z0<|Zn [2,3,4,5,299] ?_;refine Zx<|Dj Y<|AB<|A8<|Zn [2,4] ?_;refine Aq (e':=[]) (by exact ⟨⟨z.a.q,z.a.res,z.a.since,z.a.until_,z.a.base,z.a.ranges,z.a.recs⟩,_,_,_,_,_,_,_,_,_,_,_,[],⟨E _ _ _,O _ _,G _ _,hB.up⟩,V,V⟩)
  refine Zq<|Zg ?_;first|refine Ap (Bb (n:=13) Y Y) ?_|refine Ap (Br Y Y) ?_
  refine AH Y<|Zx ?_;first|refine Ak Y (fun ML=>?_) (fun ML=>?_)|refine Ad Y (fun ML=>?_) (fun ML=>?_)
  ·
   refine A1<|Zh 13 BW V rfl DB Y<|Zl E0 Y ?_;refine Zv (AP DQ Y) ?_;first|refine Ap (CO (n:=0) Y Y) ?_|refine Ap (EI Y Y) ?_
   refine Zm Y ?_;first|refine Ai (t:=346) Y rfl (fun vw=>?_) (fun vw=>?_)|refine Ah (t:=346) Y rfl (fun vw=>?_) (fun vw=>?_)
   ·
    obtain ⟨gr,cr,ax,zr,d9,rfl,P7,Qd,g,bn⟩:=H8 bf A0;injection d9 with e1 _ e3
    subst e1 e3;obtain ⟨zk,m⟩:∃zk,Z[I]?=some zk:=⟨_,zn A0⟩;have K:=W zk (Cd m)
    have pg:=Jh K.1;have hgb:=hB.rg zk.x (by rw [<-hZx];exact O2 (Cd m))
    have qo:=hgb.nr;have vz:=hgb.nt
    have qg:=g (I*9+4) _ ((Ce zc9 m (by decide:4<9)).trans rfl);have qh:=g (I*9+5) _ ((Ce zc9 m (by decide:5<9)).trans rfl)
    have af:=g (I*9+6) _ ((Ce zc9 m (by decide:6<9)).trans rfl);have qz:=g (I*9+7) _ ((Ce zc9 m (by decide:7<9)).trans rfl)
    have ek:=g (I*9+8) _ ((Ce zc9 m (by decide:8<9)).trans rfl);refine Yf 13 BW V rfl DB Y<|Yl E0 Y ?_;refine Zf Y Y ?_
    (refine DV Y (AO DQ DE Y Y ?_) rfl rfl ?_;(focus (first|omega|decide|(simp;done))))
    refine Yg (Aj (off:=8) C1 rfl rfl HM Y)<|Yl I0 Y (hv:=by first|exact ek|(rw [C6];exact ek)) ?_;refine Yg (AP Bk Y) ?_;first|refine DV Y (CO (n:=0) Y Y) rfl rfl ?_|refine DV Y (EI Y Y) rfl rfl ?_
    refine Zv (AR Y Y)<|Z0<|Zn [2,3,4,5,355] ?_;refine Zx ?_;first|refine Ak Y (fun sO=>?_) (fun sO=>?_)|refine Ad Y (fun sO=>?_) (fun sO=>?_)
    ·
     refine Zq<|BJ (n:=14) (0::1::0::0::0::16::0::112::240::496::1016::2047::4095::8191::[]) 9224 AG AG V<|A2 0 V (AV (off:=13) BW V rfl DB Y)<|B2 1 V E0 Y ?_;refine A2 2 V (AJ Y)<|A2 4 V (AV (off:=13) BW V rfl DB Y)<|B2 5 V E0 Y ?_;refine A2 6 rfl (AJ Y)<|A2 7 rfl (AO DQ DE Y Y CT)<|A2 8 rfl (Aj (off:=8) C1 rfl rfl HM Y)<|B2 9 rfl I0 Y (hv:=by first|exact ek|(rw [C6];exact ek)) ?_;refine Yz 3 0 1023 [9,5,1] [true,true,true] [(9,(_,_)),(5,(_,_)),(1,(_,_))] V Y V rfl V rfl (EN Bk CH)<|AF fun gb13=>BT<|Yz 10 1016 2047 [9,5,1] [false,false,true] [(1,(_,_))] rfl Y rfl rfl rfl rfl (Fs (by_:=16) (sz:=1) Bk (rfl:Tryz.prog.info? 9=some Tryz.t9) rfl rfl rfl rfl Y (EX 1 9 gb13 0 [] rfl AK) Y (Y3 K.2.2) (by rw [zu];omega) AK Wo Wo (by exact Je _) (by have:=hgb.nt;omega) (by have:=hgb.nt;omega)) ?_;rintro _ _ ⟨sd4,p9,rfl⟩;refine ⟨Zk (Ae),?_⟩;have vz:=hgb.nt
     replace p9:=BH (n':=zk.x.roots.length) p9 A0 (L5 _);obtain ⟨g6,c6,cur6,zz6,rfl,rfl,hc69,hs6,hin6,hf6⟩:=H8 p9 A0;obtain ⟨U,J⟩:∃c,ax.setIfInBounds (0+I*9+8) (I6 g6 zk.x.roots.length c6)=c:=⟨_,rfl⟩;have zh:U.size=ax.size:=by rw [<-J,dv]
     have Ps:U[0+I*9+8]?=some (I6 g6 zk.x.roots.length c6):=by rw [<-J];exact Wd A0
     refine A2 11 rfl (AO DQ DE Y Y CT)<|A2 12 rfl (Aj (off:=8) C1 rfl rfl HM Y)<|Zz (l:=[13])<|BE [false] [] rfl rfl (Zs HM Y Y rfl (hc:=by exact J) (hi:=by first|omega|decide|(simp;done)) (hz:=by exact bn)) ?_ (fun _ _ h=>h.elim) Ay;rintro _ _ ⟨rfl,rfl⟩;refine BT<|Ao<|Zn [2,3,4,5] ?_;refine Zx<|BJ (n:=18) (0::1::0::7::15::31::0::64::0::256::0::1792::3840::7936::16128::32704::65535::131071::[]) 163840 AG AG V<|A2 0 V (AV (off:=13) BW V rfl DB Y)<|B2 1 V E0 Y ?_;refine A2 2 rfl (AJ Y)<|A2 3 rfl (AO DQ DE Y Y (by first|omega|(simp;omega)))<|A2 4 rfl (Aj (off:=8) C1 rfl rfl HM Y)<|B2 5 rfl I0 Y (hv:=by first|exact Ps|(rw [C6];exact Ps)) ?_;first|(refine Bq (D':=127) 6 (Ag (j:=2) FA A5 Y Y ?_) ?_;(focus (first|omega|(simp;omega))))|(refine Bq (D':=127) 6 (BK (j:=2) FA A5 Y Y ?_) ?_;(focus (first|omega|(simp;omega))))
     refine B2 7 V AE Y ?_;refine A2 8 V (AV (off:=13) BW V rfl DB Y)<|B2 9 V E0 Y ?_;refine A2 10 rfl (AJ Y)<|A2 11 rfl (AO DQ DE Y Y (by first|omega|(simp;omega)))<|A2 12 rfl (Aj (off:=8) C1 rfl rfl HM Y)<|B2 13 rfl I0 Y (hv:=by first|exact Ps|(rw [C6];exact Ps)) ?_;refine A2 14 V (AP Bk Y)<|Zz (l:=[15])<|BE [false,false,false,true,true] [(5,(_,_)),(1,(_,_))] V rfl (Zu [_,_] Y S7 Y V (Mh w2 zk.x.roots.length A0 A0 qb qc)) ?_ (fun _ _ h=>h.elim) Ay;rintro _ _ ⟨rfl,rfl⟩;refine ⟨Zk (Zk (Ae)),?_⟩;obtain ⟨i13,wz⟩:∃k,k=Bu w2 zk.x.roots.length:=⟨_,rfl⟩;rw [<-wz];have hli13:=Dm w2 zk.x.roots.length A0
     rw [<-wz]at hli13;obtain ⟨qx,kv⟩:∃z:RPZ,z={zk with x:={zk.x with roots:=zk.x.roots.set i13 [120]},qt:=some ⟨g6,0,none⟩,ct:=c6}:=⟨_,rfl⟩;have h14:BZ 9 87 (I6 gr Z.length c1) (Z.set I qx).length ((Z.set I qx).flatMap El) [(gr,.cells U 87 zr)]:=by rw [<-J];exact BH (Hr bf (0+I*9+8) _) (by rw [GS]) (by rw [C6];exact J7 zc9 m AK (b:=qx) (by rw [kv];unfold El;simp only [GS];rfl))
     have hz14:qx.ok ([(g6,.cells (cur6.setIfInBounds i13 (Ci [120])) 9 zz6)]++M):=by
      rw [kv];refine ⟨K.1.mono fun c hc=>DA _ hc,K.2.1.mono fun c hc=>DA _ hc,?_⟩;exact (Eu (BH (n':=(zk.x.roots.set i13 [120]).length) (Hr p9 i13 (Ci [120])) (by rw [GS]) (by rw [List.map_set])) (by rw [GS];omega)).mono (fun c hc=>E3 _ hc)|>fun h=>by simpa only [GS]using h
     have hg14:RgB qx.x (n+1):=by rw [kv];exact {hgb.up with nt:=by simp only [GS];omega,rl:=fun s hs=>by rcases W4 hs with h|rfl;exact hgb.rl s h;decide}
     first|(refine Bq (D':=131071) 16 (BD Bk CH Y Y ?_) ?_;(focus (first|omega|(simp;omega))))|(refine Bq (D':=131071) 16 (BP Bk CH Y Y ?_) ?_;(focus (first|omega|(simp;omega))))
     refine Yw 17 262143 rfl (Zs CH Y Y rfl (hi:=by first|omega|(simp;omega)) (hz:=by exact hf6))<|C3<|Ao<|Zn [2,4] ?_;refine A8<|Zn [2,4] ?_;refine Aq (e':=[]) (by first|exact ⟨⟨z.a.q,z.a.res,z.a.since,z.a.until_,z.a.base,(Z.set I qx).map RPZ.x,z.a.recs⟩,_,_,_,_,_,_,_,_,_,_,_,_,⟨E _ _ _,Nu h14 (by rw [GS];omega) (Ol W hz14),G _ _,{hB.up with nr:=by have h:=hB.nr;rw [<-hZx]at h;simp only [zu,GS]at h⊢;omega,rg:=SA (by rw [hZx];exact hB.rg) hg14}⟩,rfl,rfl⟩|exact ⟨⟨z.a.q,z.a.res,z.a.since,z.a.until_,z.a.base,z.a.ranges,z.a.recs⟩,_,_,_,_,_,_,_,_,_,_,_,[],⟨E _ _ _,O _ _,G _ _,hB.up⟩,rfl,rfl⟩)
    refine AB<|A8<|Zn [2,4] ?_;refine Aq (e':=[]) (by exact ⟨⟨z.a.q,z.a.res,z.a.since,z.a.until_,z.a.base,z.a.ranges,z.a.recs⟩,_,_,_,_,_,_,_,_,_,_,_,[],⟨E _ _ _,O _ _,G _ _,hB.up⟩,V,V⟩)
   refine A7 Y V<|A7 Y V<|A7 Y V<|A7 Y V<|A7 Y V<|A7 Y V<|A7 Y V<|A7 Y V<|Zv (AL Y Y)<|Z0<|Zn [2,3,4,5,355] ?_;refine Zx<|Dj Y<|AB<|A8<|Zn [2,4] ?_;refine Aq (e':=[]) (by exact ⟨⟨z.a.q,z.a.res,z.a.since,z.a.until_,z.a.base,z.a.ranges,z.a.recs⟩,_,_,_,_,_,_,_,_,_,_,_,[],⟨E _ _ _,O _ _,G _ _,hB.up⟩,V,V⟩)
  refine Zq<|Zg ?_;first|refine Ap (Bb (n:=14) Y Y) ?_|refine Ap (Br Y Y) ?_
  refine AH Y<|Zx ?_;first|refine Ak Y (fun P5=>?_) (fun P5=>?_)|refine Ad Y (fun P5=>?_) (fun P5=>?_)
  ·
   refine BJ (n:=14) (0::1::0::4::12::0::32::0::128::508::1020::2047::4095::8191::[]) 11280 AG AG V<|A2 0 V (AV (off:=13) BW V rfl DB Y)<|B2 1 V E0 Y ?_;first|(refine Bq (D':=7) 2 (Ag (j:=1) FA A5 Y Y ?_) ?_;(focus (first|omega|decide|(simp;done))))|(refine Bq (D':=7) 2 (BK (j:=1) FA A5 Y Y ?_) ?_;(focus (first|omega|decide|(simp;done))))
   refine B2 3 V AE Y ?_;first|(refine Bq (D':=47) 5 (Ag (j:=2) FA A5 Y Y ?_) ?_;(focus (first|omega|decide|(simp;done))))|(refine Bq (D':=47) 5 (BK (j:=2) FA A5 Y Y ?_) ?_;(focus (first|omega|decide|(simp;done))))
   refine B2 6 V AE Y ?_;first|(refine Bq (D':=239) 7 (Ag (j:=2) FA A5 Y Y ?_) ?_;(focus (first|omega|decide|(simp;done))))|(refine Bq (D':=239) 7 (BK (j:=2) FA A5 Y Y ?_) ?_;(focus (first|omega|decide|(simp;done))))
   refine B2 8 V AE Y ?_;refine Yz 4 12 511 [8,6,3,1] [true,true,false,true] [(8,(_,_)),(6,(_,_)),(1,(_,_))] V Y V rfl V rfl (Zu [_,_] Y S7 Y V (Mh w1 3 AK AK q8 qa)) ?_;rintro _ _ ⟨rfl,rfl⟩;refine ⟨Zk (Zk (Zk (Ae))),?_⟩;obtain ⟨P6,y9⟩:∃k,k=Bu w1 3:=⟨_,rfl⟩;rw [<-y9];have hlt15:=Dm w1 3 AK
   rw [<-y9]at hlt15;refine A2 9 V (BQ (vs:=[(0,I4 (P6:Int)),(2,I4 w2),(3,I4 w2)]) (cs:=#[I4 (P6:Int),I4 0,I4 w2,I4 w2,I4 0,I4 0,.slice none 0 0,.slice none 0 0,.slice none 0 0]) Y (Aa (pl:=#[(0,1),(1,1),(2,1),(3,1),(4,1),(5,1),(6,1),(7,1),(8,1)]) P0 C1 (fun _=>by kernel_rfl) AG))<|Yz 10 1020 2047 [8,6,1] [false,false,true] [(1,(_,_))] V Y V rfl V rfl (Af (vs:=[_]) (cs:=[_,_,_,_,_,_,_,_,_]) DQ DE P0 Y V rfl V rfl V)<|AF fun gb15=>BT<|Yw 11 4095 V (BR (by_:=120) (sz:=9) DQ (V:Tryz.prog.info? 87=some Tryz.t87) V rfl V rfl Y (bf) Y (Dy 9 gb15 1 1 87 (0,0) [I4 (P6:Int),I4 0,I4 w2,I4 w2,I4 0,I4 0,.slice none 0 0,.slice none 0 0,.slice none 0 0] V) Wo Wo GF A0 A0) ?_;rintro _ _ ⟨sw15,zb,rfl⟩;obtain ⟨gw15,cw15,rfl⟩:=zb.form;refine A2 12 rfl (AV (off:=13) BW rfl rfl DB Y)<|Zz (l:=[13])<|BE [] [] rfl rfl (Zs DB Y Y rfl (hi:=by first|omega|decide|(simp;done))) ?_ (fun _ _ h=>h.elim) Ay;rintro _ _ ⟨rfl,rfl⟩;refine BT<|Ao<|Zn [2,4] ?_;refine A8<|Zn [2,4] ?_;refine Aq (e':=[]) (by first|exact ⟨⟨z.a.q,z.a.res,z.a.since,z.a.until_,z.a.base,(Z++[(⟨⟨(P6:Int),0,w2,w2,0,0,[],[],[]⟩,none,0,none,0,none,0⟩:RPZ)]).map RPZ.x,z.a.recs⟩,_,_,_,_,_,_,_,_,_,_,_,[],⟨E _ _ _,nL (z:=(⟨⟨(P6:Int),0,w2,w2,0,0,[],[],[]⟩,none,0,none,0,none,0⟩:RPZ)) zb A0 W (uV _ _),G _ _,{hB.up with nr:=by simp only [zu,zq,FF];omega,rg:=fun x hx=>by rw [Dg,hZx]at hx;rcases DM.1 hx with h|h;exact (hB.rg x h).up;rw [D0.1 h];exact xG _ _ _}⟩,rfl,rfl⟩|exact ⟨⟨z.a.q,z.a.res,z.a.since,z.a.until_,z.a.base,z.a.ranges,z.a.recs⟩,_,_,_,_,_,_,_,_,_,_,_,[],⟨E _ _ _,O _ _,G _ _,hB.up⟩,rfl,rfl⟩)
  refine AB<|A8<|Zn [2,4] ?_;refine Aq (e':=[]) (by exact ⟨⟨z.a.q,z.a.res,z.a.since,z.a.until_,z.a.base,z.a.ranges,z.a.recs⟩,_,_,_,_,_,_,_,_,_,_,_,[],⟨E _ _ _,O _ _,G _ _,hB.up⟩,V,V⟩)
 rintro _ _ ⟨y,rp,gp,cp,rn,rc,gn,gc,cn,cc,s1,s2,s3,⟨hy1,hy2,hy3,hyB⟩,rfl,rfl⟩;obtain ⟨_,_,e1,_⟩:=id hy1;injection e1 with _ e1 _
 subst e1;obtain ⟨_,_,e2,_⟩:=id hy2.form;injection e2 with _ e2 _
 subst e2;obtain ⟨_,_,e3,_⟩:=id hy3;injection e3 with _ e3 _
 subst e3;refine A1<|Zo Wh (A9 (cs:=#[I4 y.q.kd,I4 y.q.tb,I4 y.q.cl,I4 y.q.lo,I4 y.q.hi,I4 y.q.bq,I4 y.q.ot,.slice rp y.res.rows.length rc,I4 y.res.val,.bool y.res.fnd,I4 y.since,I4 y.until_,I4 y.base,.slice gp y.ranges.length gc,.slice cp y.recs.length cc]) HP F1 Y Wb (by exact BA V)) ?_;refine Xe (BN F1 Y Y XS Wu (by exact DD rfl) Ek Wb (by exact BU _)) ?_;refine AD<|AA<|DI V results23 Y Wh (Ar HP F1 Wn (BA V)) (by exact ⟨⟨y,rp,rc,gp,gc,cp,cc⟩,s1,s2,s3,V,⟨hy1,hy2,hy3⟩,hyB,V⟩)
theorem tK{z:Fq}(hz:z.ok M)(hB:TwB z.a n)(hn:n<=10)(g:Int)(J:-9223372036854775808<=g)(K:g<=9223372036854775807)(m:Int)(O:-9223372036854775808<=m)(U:m<=9223372036854775807)(G:Int)(W:-9223372036854775808<=G)(X:G<=9223372036854775807)(I:Int)(af:-9223372036854775808<=I)(ax:I<=9223372036854775807):Bz prog 23 #[.agg z.Ao7,.agg #[I4 g,I4 m,I4 G,I4 I]] [M] (fun r H'=>∃(y:Fq) (E:List AU),r= .agg y.Ao7/\y.ok (E++M)/\TwB y.a (n+1)/\H'=[E,M]):=by
 refine Dw (mO hz hB hn g J K m O U G W X I af ax) V ?_;rintro w H' ⟨y,s1,s2,s3,rfl,h1,h2,rfl⟩;exact ⟨_,⟨y,s1++(s2++s3),V,by simpa only [D2]using h1,h2,V⟩,by simp⟩
end Go.Proofs.YtlkdhannldcfbaaGreatDoor
