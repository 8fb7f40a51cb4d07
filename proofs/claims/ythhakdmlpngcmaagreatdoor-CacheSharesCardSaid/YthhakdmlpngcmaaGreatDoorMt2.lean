/- Records encoded, in plain words; slices.Clone of changes. -/
import Derived.Test.YthhakdmlpngcmaaGreatDoorPy5
set_option linter.unusedVariables false
set_option linter.unusedSimpArgs false
namespace Go.Proofs.YthhakdmlpngcmaaGreatDoor
open Go.Proofs.Tryz
open Go Go.RowKit Gw
set_option maxRecDepth 100000
attribute [local irreducible] Gw.At Gw.Nx Gw.Ops
def fl1(c:Chg):Int:=if c.had then 1 else 0
def vs1(c:Chg):List Int:=if c.had then [c.o.a,c.o.b,c.o.c]else []
def fl2(c:Chg):Int:=if c.has then fl1 c+2 else fl1 c
def vs2(c:Chg):List Int:=if c.has then vs1 c++[c.n.a,c.n.b,c.n.c]else vs1 c
def xf(c:Chg):List UInt8:=Hr [c.t,c.k,fl2 c]++Hr (vs2 c)
def tE(p:Int)(cs:List Chg):List UInt8:=Hr [p,(cs.length:Int)]++cs.flatMap xf
variable{cs:List Chg}
theorem EK.mem{p:Int}(h:EK p cs):∀c∈cs,c.ok:=fun c hc=>by
 obtain ⟨i,hi⟩:=HH hc;exact h.all i c hi
variable{cap n:Nat}
theorem Mf{sz:Nat}{e:AM}{g:Nat}{cur:AK}{z:Nat×Nat}{xs:List A4}(h:Bd sz e (I6 g n cap) n xs [(g,.cells cur e z)]){j:Nat}{u:A4}(G:xs[j]?=some u):cur[j]?=some u:=by
 obtain ⟨U,⟨m,_⟩|⟨K,I,J,W,m,h2,_,_,_,B,_⟩⟩:=h;· cases m
 · injection m with m _ h3
   injection h2 with h2 _
   injection h2 with h4 h5
   injection h5 with h5 _ _
   subst h5;have O:=(C4.1 G).1
   rw [<-B,HI,Ax A0]at G;simpa using G
variable{p:B8}
theorem jC{sz:Nat}{e:AM}{xs:List A4}{s:List A9}(h:Bd sz e (.slice p n cap) n xs s)(h0:0<n):∃g cur z,p=some ⟨g,0,none⟩/\s=[(g,.cells cur e z)]/\Ie z cur.size/\cur.size=cap*sz/\n<=cap/\cap<=maxLen:=by
 obtain ⟨O,⟨m,h2,_⟩|⟨g,B,cur,z,m,rfl,h2,G,I,K,J⟩⟩:=h;· omega
 · injection m with m _ h7
   subst h7;exact ⟨g,cur,z,m,V,J,I,h2,G⟩
variable{M:List A9}
theorem iD(h:Cv M (.slice p n cap) cs):FM M p (Cm cs):=by
 obtain ⟨B,g,e,_,m⟩:=h;injection e with e1 e2 e3
 subst e1;exact Nr _ 10 (fun _=>rfl) B1 fun i z hz=>m i z hz
theorem dB{ls:List Bs}(h:Eb M (.slice p n cap) ls):FM M p (ls.map G7):=by
 obtain ⟨G,m,e,_,B⟩:=h;injection e with e1 e2 e3
 subst e1;intro j u g;rw [DP]at g;cases hs:ls[j]?with
 |none=>rw [hs]at g;cases g
 |some s=>rw [hs]at g;injection g with g;subst g;exact B j s hs
theorem qC(ls:List Bs):∀u∈ls.map G7,u.oneCell'=true:=by
 intro u g;obtain ⟨z,_,rfl⟩:=C6.1 g;rfl
variable{ps:List (List Bs)}
theorem eB(h:Ma M (.slice p n cap) ps):∃m,LV M m ps/\FM M p m/\∀u∈m,u.oneCell'=true:=by
 obtain ⟨p',af,e,_,hg⟩:=h;injection e with e1 e2 e3
 subst e1;have key:∀k,k<=ps.length->∃m:List A4,m.length=k/\∀(i:Nat) (l:List Bs),i<k->ps[i]?=some l->∃q c,m[i]?=some (.slice q l.length c)/\Eb M (.slice q l.length c) l/\∃g off cur T zz,p=some ⟨g,off,none⟩/\(g,Obj.cells cur T zz)∈M/\cur[off+i]?=some (.slice q l.length c):=by
  intro k;induction k with
  |zero=>intro _;exact ⟨[],rfl,fun i l h=>absurd h (fW i)⟩
  |succ k ih=>
   intro hk;obtain ⟨m,O,h2⟩:=ih A0;obtain ⟨l,G⟩:∃l,ps[k]?=some l:=⟨_,BT A0⟩;obtain ⟨q,c,I,W⟩:=hg k l G;refine ⟨m++[.slice q l.length c],by rw [Bm,O];rfl,fun i l' hi B=>?_⟩;rcases FF i k with U|U
   · obtain ⟨q',c',X,Z⟩:=h2 i l' U B
     exact ⟨q',c',by rw [Wa A0];exact X,Z⟩
   · obtain rfl:i=k:=by omega
     rw [G]at B;injection B with B;subst B
     exact ⟨q,c,by rw [RM A0,O];simp,I,W⟩
 obtain ⟨m,O,h2⟩:=key ps.length (CI _);refine ⟨m,⟨O,fun i v l hv G=>?_⟩,fun j u J=>?_,fun u J=>?_⟩
 · obtain ⟨q,c,I,W,_⟩:=h2 i l (C4.1 G).1 G
   rw [I]at hv;injection hv with hv;subst hv;exact W
 · have K:=(C4.1 J).1
   obtain ⟨l,G⟩:∃l,ps[j]?=some l:=⟨_,BT A0⟩;obtain ⟨q,c,I,_,g,off,cur,T,zz,U,X,Z⟩:=h2 j l A0 G;rw [I]at J;injection J with J;subst J
   exact ⟨g,off,cur,T,zz,U,X,Z⟩
 · obtain ⟨j,K⟩:=HH J
   have ax:=(C4.1 K).1;obtain ⟨l,G⟩:∃l,ps[j]?=some l:=⟨_,BT A0⟩;obtain ⟨q,c,I,_⟩:=h2 j l A0 G;rw [I]at K;injection K with K;subst K;rfl
def RP.fits(x:RP):Prop:=x.rows.length<=1000000/\x.paths.length<=1000000/\x.roots.length<=1000000/\∀l∈x.paths,l.length<=1000000
theorem WS(Z:List RPZ):(Z.flatMap Em).length=Z.length*9:=by
 induction Z with
 |nil=>rfl
 |cons a l ih=>rw [HW,Bm,ih];show 9+_=_;rw [E3];omega
variable{i:Nat}
theorem bR{A B:List RPZ}{z:RPZ}(g:A.length=i)(k:Nat)(m:k<9):((A++z::B).flatMap Em)[i*9+k]?=(Em z)[k]?:=by
 rw [P2,HW,RM (by rw [WS];omega),WS,g,show i*9+k -i*9=k by omega,Wa m]
theorem zS{A B:List RPZ}{z:RPZ}(G:A.length=i)(a b c:B8)(g m c':Nat):
 ((((A++z::B).flatMap Em).set (i*9+6) (.slice a z.x.rows.length g)).set (i*9+8) (.slice b z.x.roots.length m)).set (i*9+7) (.slice c z.x.paths.length c')=(A++[(⟨z.x,a,g,c,c',b,m⟩:RPZ)]++B).flatMap Em:=by
 have e:∀(l:List A4) (k:Nat) (v:A4),(A.flatMap Em++l).set (i*9+k) v=A.flatMap Em++l.set k v:=fun l k v=>by
  rw [ln _ _ (by rw [WS];omega),WS,G,show i*9+k -i*9=k by omega]
 rw [CT,P2,P2,HW,e,e,e];rfl
variable{v:A4}
theorem Uj(hv:Cv M v cs)(Z:cs.length<=1000000):BR prog 95 #[v] [M] (fun r H'=>∃K,Bd 10 74 r cs.length (Cm cs) K/\H'=[K,M]):=by
 have W:=mL;have B:=hv
 obtain ⟨p,cap,rfl,hl,U⟩:=id hv;replace B:=iD B;refine Se func95 ntmps95 [0] ?_;intro u R;refine A1<|A5 Y<|Zq<|A1<|Zm Y<|Zv (Dq Gk Y Y)<|A6<|AU Y (fun J=>?_) (fun J=>?_);·
  have G:p=none:=by cases p with
   |none=>rfl
   |some x=>cases J
  have h0:cs=[]:=by
   cases cs with
   |nil=>rfl
   |cons x l=>obtain ⟨g,off,cur,T,zz,I,_⟩:=U 0 x rfl;rw [G]at I;cases I
  refine Zq<|Bc<|Zg<|A5 Y<|AJ<|Zt<|AP rfl results95 Y (by exact ⟨[],by rw [h0];exact Bj 10 _,rfl⟩)
 refine AC<|Zx<|A1<|Ze (EQ Gk CC)<|AG fun O=>Zm Y<|Ze (HY (by_:=80) (sz:=10) Gk (V:Tryz.prog.info? 74=some Tryz.t74) V rfl V rfl Y (IR 10 74 O 0 [] V B1) Y (B) (by exact GD _) B1 Wo Wo (by exact PO _) A0 A0) ?_;rintro _ _ ⟨X,m,rfl⟩;replace m:=BZ m (D3 _) (Kx _);refine A5 Y<|AJ<|AP V results95 Y (by exact ⟨_,m,V⟩)
theorem ND{ls:List Bs}(hv:Eb M v ls)(Z:ls.length<=1000000):BR prog 77 #[v] [M] (fun r H'=>∃K,Bd 1 9 r ls.length (ls.map G7) K/\H'=[K,M]):=by
 have W:=mL;have B:=hv
 obtain ⟨p,cap,rfl,hl,U⟩:=id hv;replace B:=dB B;refine Se func77 ntmps77 [0] ?_;intro u R;refine A1<|A5 Y<|Zq<|A1<|Zm Y<|Zv (Dq DH Y Y)<|A6<|AU Y (fun J=>?_) (fun J=>?_);·
  have G:p=none:=by cases p with
   |none=>rfl
   |some x=>cases J
  have h0:ls=[]:=by
   cases ls with
   |nil=>rfl
   |cons x l=>obtain ⟨g,off,cur,T,zz,I,_⟩:=U 0 x rfl;rw [G]at I;cases I
  refine Zq<|Bc<|Zg<|A5 Y<|AJ<|Zt<|AP rfl results77 Y (by exact ⟨[],by rw [h0];exact Bj 1 _,rfl⟩)
 refine AC<|Zx<|A1<|Ze (EQ DH Fm)<|AG fun O=>Zm Y<|Ze (HY (by_:=16) (sz:=1) DH (V:Tryz.prog.info? 9=some Tryz.t9) V rfl V rfl Y (IR 1 9 O 0 [] V B1) Y (B) (by(rw [B6,Mn])) B1 Wo Wo (by exact qC _) A0 A0) ?_;rintro _ _ ⟨X,m,rfl⟩;replace m:=BZ m (D3 _) (Kx _);refine A5 Y<|AJ<|AP V results77 Y (by exact ⟨_,m,V⟩)
theorem Sk(hv:Ma M v ps)(hb:ps.length<=1000000):BR prog 78 #[v] [M] (fun r H'=>∃X B,LV M B ps/\Bd 1 52 r ps.length B X/\H'=[X,M]):=by
 have ax:=mL;have G:=hv
 obtain ⟨p,cap,rfl,⟨hl,af⟩,hg⟩:=id hv;obtain ⟨B,J,G,I⟩:=eB G;have O:=J.1
 refine Se func78 ntmps78 [0] ?_;intro u R;refine A1<|A5 Y<|Zq<|A1<|Zm Y<|Zv (Dq T7 Y Y)<|A6<|AU Y (fun W=>?_) (fun W=>?_);·
  have K:p=none:=by cases p with
   |none=>rfl
   |some x=>cases W
  have h0:ps=[]:=by
   cases ps with
   |nil=>rfl
   |cons x l=>obtain ⟨_,_,_,g,off,cur,T,zz,U,_⟩:=hg 0 x rfl;rw [K]at U;cases U
  refine Zq<|Bc<|Zg<|A5 Y<|AJ<|Zt<|AP rfl results78 Y (by exact ⟨[],[],by rw [h0];exact VU _,by rw [h0];exact Bj 1 _,rfl⟩)
 refine AC<|Zx<|A1<|Ze (EQ T7 I3)<|AG fun Z=>Zm Y<|Ze (HY (by_:=24) (sz:=1) T7 (V:Tryz.prog.info? 52=some Tryz.t52) V rfl V rfl Y (IR 1 52 Z 0 [] V B1) Y (G) (by(rw [Mn];exact O)) B1 Wo Wo I A0 A0) ?_;rintro _ _ ⟨bn,m,rfl⟩;replace m:=BZ m (D3 _) (Kx _);refine A5 Y<|AJ<|AP V results78 Y (by exact ⟨_,B,J,m,V⟩)
theorem eD{I s:List A9}{m:List A4}{k:Nat}{O:A4}{K:List Bs}(h:∀(j:Nat) (v:A4) (l:List Bs),m[j]?=some v->ps[j]?=some l->if j<k then Eb I v l else Eb M v l)(X:m.length=ps.length)(Z:k<ps.length)(W:ps[k]?=some K)(U:Eb s O K):
 ∀(j:Nat) (v:A4) (l:List Bs),(m.set k O)[j]?=some v->ps[j]?=some l->if j<k+1 then Eb (s++I) v l else Eb M v l:=by
 intro j v l hv g;rw [T0]at hv;by_cases J:k=j
 · subst J
   rw [Ax rfl,Ax A0]at hv;injection hv with hv
   rw [W]at g;injection g with g
   subst hv g;rw [Ax A0];exact U.mono fun c hc=>Ek _ hc
 · rw [As J]at hv
   have G:=h j v l hv g;by_cases B:j<k
   · rw [Ax B]at G
     rw [Ax A0];exact G.mono fun c hc=>G2 _ hc
   · rw [As B]at G
     rw [As A0];exact G
theorem oG{α:Type}{l:List α}{x:α}(h:l[i]?=some x):l.drop i=x::l.drop (i+1):=by
 obtain ⟨g,h2⟩:=C4.1 h;rw [RR g,h2]
theorem Qi(p:Int)(hv:Cv M v cs)(I:cs.length<=1000000):BR prog 45 #[.agg #[I4 p,v]] [M] (fun r H'=>∃q cap s,r= .agg #[I4 p,.slice q cs.length cap]/\Cv s (.slice q cs.length cap) cs/\H'=[s,M]):=by
 have K:=mL;obtain ⟨O,g,rfl,J,_⟩:=id hv;refine Se func45 ntmps45 [0] ?_;intro u R;refine A1<|Ze (Bx #[I4 p,.slice O cs.length g])<|AG fun W=>Ze (Al TX #[_,_])<|AG fun U=>A6<|A1<|Zh 1 HE V rfl MA Y<|Zl OK Y ?_;refine Zc [_] Y call95 Y V (Uj hv I) ?_;rintro _ _ ⟨_,⟨s1,G,rfl⟩,rfl⟩;obtain ⟨B,m,rfl⟩:=G.form;refine Zh 1 HE V rfl MA Y<|Xe (Zs MA Y Y V (hi:=by(simp;done))) ?_;refine A6<|A1<|Zo Wh (AB (cs:=#[I4 p,.slice B cs.length m]) Iv GC Y B5 (by exact BN V)) ?_;refine Xe (BL GC Y Y Hb Wu (by exact EI rfl) FA B1 (by exact BC _)) ?_;refine A6<|AJ<|D6 V results45 Y Wh (Au Iv GC Wn (BN V)) (by exact ⟨B,m,s1,V,QO G A0,V⟩)
set_option maxHeartbeats 1000000 in
theorem Qj(q:QM)(te base:Int){pg:B8}{cg:Nat}{L:List RP}(hL:GI M (.slice pg L.length cg) L)(wo:L.length<=1000000)(j5:∀x∈L,x.fits):BR prog 36 #[.agg #[I4 q.kd,I4 q.tb,I4 q.cl,I4 q.lo,I4 q.hi,I4 q.bq,I4 q.ot,I4 te,I4 base,.slice pg L.length cg]] [M] (fun r H'=>∃pz cz s,r= .agg #[I4 q.kd,I4 q.tb,I4 q.cl,I4 q.lo,I4 q.hi,I4 q.bq,I4 q.ot,I4 te,I4 base,.slice pz L.length cz]/\GI s (.slice pz L.length cz) L/\H'=[s,M]):=by
 have zb:=mL;obtain ⟨Z,hZ,cO⟩:=id hL;have j3:Z.length=L.length:=by rw [<-cO,B6]
 obtain ⟨p9,ve,e9,_,r9⟩:=id hZ;injection e9 with e91 e92 e93
 subst e91 e93;have p8:∀(i:Nat) (z:RPZ),Z[i]?=some z->z.ok M/\z.x.fits:=fun i z hz=>⟨(r9 i z hz).1,j5 _ (by rw [<-cO];exact DS (DQ hz))⟩
 refine Se func36 ntmps36 [0] ?_;intro u R;refine A1<|Ze (Bx #[I4 q.kd,I4 q.tb,I4 q.cl,I4 q.lo,I4 q.hi,I4 q.bq,I4 q.ot,I4 te,I4 base,.slice pg L.length cg])<|AG fun be=>Ze (Ey Th (cs:=#[I4 0,I4 0,I4 0,I4 0,I4 0,I4 0,I4 0,I4 0,I4 0,.slice none 0 0]) AF)<|AG fun bo=>A6<|A1<|Zh 9 GB V rfl My Y<|Zl SP Y ?_;refine Zc [_] Y call75 Y V (Ld hZ A0) ?_;rintro _ _ ⟨_,⟨s1,h1,rfl⟩,rfl⟩;obtain ⟨pz,cz,rfl⟩:=h1.form;refine Zh 9 GB V rfl My Y<|Xe (Zs My Y Y V (hi:=by(simp;done))) ?_;refine A6<|Zq<|Zq<|Bc<|Zg<|Zh 9 GB V rfl My Y<|Zl SP Y ?_;refine Zv (Ac W3 Y)<|Zm Y<|A6<|AQ<|Zb [13,1,2,12] ?_;refine BI (e0:=[(13,_)]) (fun m e H=>∃(i:Nat) (W:List RPZ) (sz MM:List A9),m=Z.length -i/\((i<=Z.length/\W.length=i)/\Bd 9 171 (.slice pz Z.length cz) Z.length ((W++Z.drop i).flatMap Em) sz/\(∀z∈W,z.ok MM)/\W.map RPZ.x=(Z.take i).map RPZ.x)/\e=[(13,I4 (i:Int))]/\H=[sz,MM]) (by exact ⟨0,[],s1,[],V,⟨⟨C7 _,V⟩,h1,fun z hz=>absurd hz B4,V⟩,V,V⟩) Wp ?_;rintro _ _ _ ⟨i,W,sz,MM,rfl,⟨⟨hi,K⟩,G,af,ek⟩,rfl,rfl⟩;refine Zq<|Bc<|Zg<|Zv (Ay Y Y)<|A6<|Zq<|Aw Y (fun qz=>?_) (fun qz=>?_);·
  obtain ⟨z,hz⟩:∃z,Z[i]?=some z:=⟨_,BT A0⟩;obtain ⟨⟨sw,sj,sJ⟩,y9,pq,q9,qa⟩:=p8 i z hz;rw [oG hz]at G;obtain ⟨g,cur,zz,rfl,rfl,d9,y5,za,wz⟩:=jC G A0;have yt:i*9+9<=cur.size:=by omega
  have qb:=Mf G (bR (B:=Z.drop (i+1)) K 6 B1);have qj:=Mf G (bR (B:=Z.drop (i+1)) K 7 B1)
  have qo:=Mf G (bR (B:=Z.drop (i+1)) K 8 B1);refine AC<|Zx<|Zq<|AQ<|Zq<|Bc<|Zg<|Zm Y<|A5 Y<|A1<|Zh 9 GB V rfl My Y<|Zl SP Y ?_;refine Zm Y<|BU (Ae W3 Mu Y Y A0)<|A5 Y<|Zq<|BA (n:=27) (0::0::0::0::8::24::56::120::0::256::768::1792::4088::0::8192::24576::57344::131064::262137::524281::1048569::2097147::4194299::8388603::16777215::33554431::67108863::[]) 76681344 AF AF rfl<|A3 0 rfl (AO Y)<|A3 1 rfl (AO Y)<|A3 2 rfl (AO Y)<|A3 3 rfl (AO Y)<|A3 4 rfl (Ak Y rfl)<|A3 5 rfl (Ap (off:=6) E4 rfl rfl DA Y)<|BE 6 rfl GP Y (hv:=by exact (by rw [D3];exact qb)) ?_;refine A3 8 rfl (AO Y)<|A3 9 rfl (Ak Y rfl)<|A3 10 rfl (Ap (off:=8) E4 rfl rfl I3 Y)<|BE 11 rfl LL Y (hv:=by exact (by rw [D3];exact qo)) ?_;refine A3 13 rfl (AO Y)<|A3 14 rfl (Ak Y rfl)<|A3 15 rfl (Ap (off:=7) E4 rfl rfl S8 Y)<|BE 16 rfl isAgg169 Y (hv:=by exact (by rw [D3];exact qj)) ?_;refine Zz (l:=[7])<|B7 [true,true,false] [(16,(_,_)),(11,(_,_))] V rfl (Zw [_] Y call76 Y V (Gh sw A0)) ?_ Bv Aj;rintro _ _ ⟨_,⟨sr,l9,rfl⟩,rfl⟩;refine ⟨Zk (Zk (AZ)),?_⟩;obtain ⟨qr,cr,rfl⟩:=l9.form;refine Zz (l:=[12])<|B7 [true,false] [(16,(_,_))] V rfl (Zw [_] Y call77 Y V (ND sJ q9)) ?_ Bv Aj;rintro _ _ ⟨_,⟨st,o8,rfl⟩,rfl⟩;refine ⟨Zk (AZ),?_⟩;obtain ⟨qt,ct,rfl⟩:=o8.form;refine Zz (l:=[17])<|B7 [false] [] V rfl (Zw [_] Y call78 Y V (Sk sj pq)) ?_ Bv Aj;rintro _ _ ⟨_,⟨sO,sM,ax,bn,rfl⟩,rfl⟩;refine ⟨AZ,?_⟩;obtain ⟨qp,cp,rfl⟩:=bn.form;refine A3 18 V (Ak Y V)<|A3 19 V (Ap (off:=6) E4 V rfl DA Y)<|Zz (l:=[20])<|B7 [] [] V rfl (Zs DA Y Y V (hi:=by omega) (hz:=by exact d9)) ?_ (fun _ _ h=>h.elim) Aj;rintro _ _ ⟨rfl,rfl⟩;refine BW<|A3 21 V (Ak Y V)<|A3 22 V (Ap (off:=8) E4 V rfl I3 Y)<|Zz (l:=[23])<|B7 [] [] V rfl (Zs I3 Y Y V (hi:=by(simp;omega)) (hz:=by(simp only [SU];exact d9))) ?_ (fun _ _ h=>h.elim) Aj;rintro _ _ ⟨rfl,rfl⟩
  refine BW<|A3 24 V (Ak Y V)<|A3 25 V (Ap (off:=7) E4 V rfl S8 Y)<|Zz (l:=[26])<|B7 [] [] V rfl (Zs S8 Y Y V (hi:=by(simp;omega)) (hz:=by(simp only [SU];exact d9))) ?_ (fun _ _ h=>h.elim) Aj;rintro _ _ ⟨rfl,rfl⟩;refine BW<|Ag<|Zn [1,2,4,12,13] ?_;refine Zx<|Zq ?_;have h7:(((cur.setIfInBounds (0+i*9+6) (.slice qr z.x.rows.length cr)).setIfInBounds (0+i*9+8) (.slice qt z.x.roots.length ct)).setIfInBounds (0+i*9+7) (.slice qp z.x.paths.length cp))[0+i*9+7]?=some (.slice qp z.x.paths.length cp):=by
   rw [i7,Ax rfl,Ax (by simp only [SU];omega)]
  obtain ⟨gy,I⟩:∃c,c=(((cur.setIfInBounds (0+i*9+6) (.slice qr z.x.rows.length cr)).setIfInBounds (0+i*9+8) (.slice qt z.x.roots.length ct)).setIfInBounds (0+i*9+7) (.slice qp z.x.paths.length cp)):=⟨_,rfl⟩;rw [<-I]at h7⊢;refine Zg<|Zm Y<|Zp Y V<|Zv (Ap (off:=7) E4 V rfl S8 Y)<|Zl isAgg169 Y (hv:=by exact h7) ?_;refine Zv (Ac T7 Y)<|Zm Y<|A6<|AQ<|Bc<|Zb [49,1,2,4,12,13,48] ?_;refine BI (e0:=[(49,_)]) (fun m e H=>∃(k:Nat) (O:List A4) (sp U:List A9),m=z.x.paths.length -k/\((k<=z.x.paths.length/\O.length=z.x.paths.length)/\Bd 1 52 (.slice qp z.x.paths.length cp) z.x.paths.length O sp/\(∀(j:Nat) (v:A4) (l:List Bs),O[j]?=some v->z.x.paths[j]?=some l->if j<k then Eb U v l else Eb M v l))/\e=[(49,I4 (k:Int))]/\H=[sp,U]) (by exact ⟨0,sM,sO,[],rfl,⟨⟨C7 _,ax.1⟩,bn,fun j v l hv hl=>by rw [As (fW j)];exact ax.2 j v l hv hl⟩,rfl,rfl⟩) Wp ?_;rintro _ _ _ ⟨k,O,sp,U,rfl,⟨⟨hk,gm⟩,X,gq⟩,rfl,rfl⟩;refine A1<|Zv (Ay Y Y)<|A6<|Zq<|Aw Y (fun dn=>?_) (fun dn=>?_);·
   obtain ⟨l,hl⟩:∃l,z.x.paths[k]?=some l:=⟨_,BT dn⟩;have qx:=qa l (DQ hl)
   obtain ⟨v0,o9⟩:∃v,O[k]?=some v:=⟨_,BT A0⟩;obtain ⟨gp,ic,zp,rfl,rfl,kv,vw,vz,vo⟩:=jC X A0;have qw:=Mf X o9
   have cu:=gq k v0 l o9 hl;rw [As (Nat.lt_irrefl k)]at cu;refine AC<|Zx<|Zq<|AQ<|A1<|Zm Y<|A5 Y<|BA (n:=15) (0::1::3::7::0::0::32::96::224::0::992::2016::4064::8191::16383::[]) 20480 AF AF V<|A3 0 V (AO Y)<|A3 1 V (Ak Y V)<|A3 2 V (Ap (off:=7) E4 V rfl S8 Y)<|BE 3 V isAgg169 Y (hv:=by exact h7) ?_;refine A3 4 V (AO Y)<|A3 5 V (AO Y)<|A3 6 V (Ak Y V)<|A3 7 V (Ap (off:=7) E4 V rfl S8 Y)<|BE 8 V isAgg169 Y (hv:=by exact h7) ?_;refine A3 9 rfl (AO Y)<|A3 10 rfl (Be T7 I3 Y Y (by first|omega|(simp;omega)))<|BE 11 rfl LL Y (hv:=by exact (by exact qw)) ?_;refine Zz (l:=[12])<|B7 [false,false,true] [(3,(_,_))] V rfl (Zw [_] Y call77 Y V (ND cu qx)) ?_ Bv Aj;rintro _ _ ⟨_,⟨sl,l8,rfl⟩,rfl⟩;refine ⟨Zk (AZ),?_⟩;obtain ⟨ql,cl,rfl⟩:=l8.form;refine A3 13 rfl (Be T7 I3 Y Y (by first|omega|(simp;omega)))<|Yw 14 32767 rfl (Zs I3 Y Y rfl (hi:=by omega) (hz:=by exact kv))<|Cp<|Ag<|Zn [1,2,4,12,13,48,49] ?_;refine A8<|Zx<|Cb (s1:=sl) (s2:=U) Wo Wo ?_;refine Zg<|Ya (n:=1) Y Y<|Zm Y<|Z0<|Zn [49,1,2,4,12,13,48] ?_;refine Aa (e':=[(49,_)]) (by exact ⟨k+1,O.set k (.slice ql l.length cl),[(gp,.cells (ic.setIfInBounds k (.slice ql l.length cl)) 52 zp)],sl++U,rfl,⟨⟨by omega,by rw [dj];exact gm⟩,Oc X k _,eD gq gm dn hl (He l8 A0)⟩,rfl,rfl⟩)
  obtain rfl:k=z.x.paths.length:=by omega
  refine BD<|Zt<|Zt<|AV<|A8<|Zx<|Cb (s1:=U) (s2:=st) Wo Wo ?_;refine Cb (s1:=sp) (s2:=(U++st)) Wo Wo ?_;refine Cb (s1:=sr) (s2:=(sp++(U++st))) Wo Wo ?_;refine Cb (s1:=(sr++(sp++(U++st)))) (s2:=MM) Wo Wo ?_;have l5:RPZ.ok (sr++(sp++(U++st))) ⟨z.x,qr,cr,qp,cp,qt,ct⟩:=⟨(DY l9 A0).mono (fun c hc=>Ek _ hc),(VV X ⟨gm,fun j v l hv hl=>by
   have h9:=gq j v l hv hl;rwa [Ax (C4.1 hl).1]at h9⟩ A0).mono (fun c hc=>by rcases C2.1 hc with h9|h9<;>simp [h9]),(He o8 A0).mono (fun c hc=>by simp [hc])⟩
  have J:=Oc (Oc (Oc G (i*9+6) (.slice qr z.x.rows.length cr)) (i*9+8) (.slice qt z.x.roots.length ct)) (i*9+7) (.slice qp z.x.paths.length cp);rw [zS K]at J;simp only [D3]at I;rw [<-I]at J;refine Zg<|Ya (n:=1) Y Y<|Zm Y<|Z0<|Zn [13,1,2,12] ?_;refine Aa (e':=[(13,_)]) (by
   exact ⟨i+1,W++[⟨z.x,qr,cr,qp,cp,qt,ct⟩],[(g,.cells gy 171 zz)],sr++(sp++(U++st))++MM,rfl,⟨⟨by omega,by rw [Bm,K];rfl⟩,J,fun y hy=>by
    rcases C2.1 hy with hy|hy
    · exact (af y hy).mono (fun c hc=>G2 _ hc)
    · rw [C5.1 hy];exact l5.mono (fun c hc=>Ek _ hc),by rw [C0,ek,Bn hz,C0];rfl⟩,rfl,rfl⟩)
 obtain rfl:i=Z.length:=by omega
 refine BD<|Zt<|Zt<|AV<|Zx<|Zq ?_;rw [show W++Z.drop Z.length=W by rw [j0,D2]]at G;rw [G3]at ek;refine Cb (s1:=sz) (s2:=MM) Wo Wo ?_;refine Zg<|Zo Wh (AB (cs:=#[I4 q.kd,I4 q.tb,I4 q.cl,I4 q.lo,I4 q.hi,I4 q.bq,I4 q.ot,I4 te,I4 base,.slice pz Z.length cz]) Tl HG Y B5 (by exact BN V)) ?_;refine Xe (BL HG Y Y Hb Wu (by exact EI rfl) FA B1 (by exact BC _)) ?_;refine A6<|AJ<|D6 rfl results36 Y Wh (Au Tl HG Wn (BN rfl)) (by exact ⟨pz,cz,sz++MM,by rw [j3],⟨W,WR (by rw [K,<-j3];exact G) A0 af,by rw [ek];exact cO⟩,rfl⟩)
structure El(qs:List (Int×QM))(es:Array MapEntry)(ck:Nat)(lm:List (Int×A4)):Prop where
 map:Co (fun n:Int=>Value.int .i64 n) es ck lm
 mem:∀p,p∈lm↔∃x∈qs,p=(x.1,(.agg #[I4 x.2.kd,I4 x.2.tb,I4 x.2.cl,I4 x.2.lo,I4 x.2.hi,I4 x.2.bq,I4 x.2.ot]:A4))
 ids:(qs.map (·.1)).Nodup
theorem OE{β:Type}(p:β×A4)(k:β)(v v0:A4){A:Prop}:(p=(k,v)\/((p=(k,v0)\/(A/\p.1≠k))/\p.1≠k))↔(p=(k,v)\/(A/\p.1≠k)):=by
 constructor
 · rintro (h|⟨h|⟨h,_⟩,hn⟩)
   · exact .inl h
   · exact absurd (by rw [h]) hn
   · exact .inr ⟨h,hn⟩
 · rintro (h|⟨h,hn⟩)
   · exact .inl h
   · exact .inr ⟨.inr ⟨h,hn⟩,hn⟩
theorem nO:El [] #[] 0 []:=⟨EX _,fun p=>by simp,mu⟩
theorem El.none{qs:List (Int×QM)}{es:Array MapEntry}{ck:Nat}{lm:List (Int×A4)}(h:El qs es ck lm){id:Int}(g:∀x∈qs,x.1≠id):Dp id lm=none:=Da fun p m=>by
 obtain ⟨x,B,rfl⟩:=(h.mem p).1 m;exact g x B
variable{qs:List (Int×QM)}{es:Array MapEntry}{ck:Nat}{lm:List (Int×A4)}
theorem El.get(h:El qs es ck lm){x:Int×QM}(g:x∈qs):Dp x.1 lm=some (.agg #[I4 x.2.kd,I4 x.2.tb,I4 x.2.cl,I4 x.2.lo,I4 x.2.hi,I4 x.2.bq,I4 x.2.ot]:A4):=D7 h.map.keys ((h.mem _).2 ⟨x,g,rfl⟩)
theorem El.len(h:El qs es ck lm):lm.length=qs.length:=by
 have B:(lm.map (·.1)).Perm (qs.map (·.1)):=(OS h.map.keys h.ids).2 fun a=>by
  constructor
  · intro g
    obtain ⟨p,G,rfl⟩:=C6.1 g;obtain ⟨x,m,rfl⟩:=(h.mem p).1 G;exact DS m
  · intro g
    obtain ⟨x,m,rfl⟩:=C6.1 g;exact C6.2 ⟨_,(h.mem _).2 ⟨x,m,V⟩,V⟩
 have:=B.length_eq;simpa using this
theorem nQ(h:El qs es ck lm){id:Int}{q:QM}(I:∀x∈qs,x.1≠id){G:Array MapEntry}{B:Nat}{m:List (Int×A4)}(O:Co (fun n:Int=>Value.int .i64 n) G B m)
 (U:∀p,p∈m↔p=(id,(.agg q.A72:A4))\/(p∈lm/\p.1≠id)):El (qs++[(id,q)]) G B m:=by
 refine ⟨O,fun p=>?_,?_⟩
 · rw [U,h.mem]
   constructor
   · rintro (rfl|⟨⟨x,g,rfl⟩,_⟩)
     · exact ⟨(id,q),by simp,rfl⟩
     · exact ⟨x,Ek _ g,rfl⟩
   · rintro ⟨x,g,rfl⟩
     rcases C2.1 g with g|g
     · exact .inr ⟨⟨x,g,rfl⟩,I x g⟩
     · rw [C5.1 g];exact .inl rfl
 · rw [C0,GW]
   refine ⟨h.ids,by simp,fun a J b K=>?_⟩;obtain ⟨x,g,rfl⟩:=C6.1 J;obtain rfl:=C5.1 K;exact I x g
theorem nP(h:El qs es ck lm)(id:Int){B:Array MapEntry}{m:Nat}{g:List (Int×A4)}(J:Co (fun n:Int=>Value.int .i64 n) B m g)(O:∀p,p∈g↔p∈lm/\p.1≠id):El (qs.filter fun x=>x.1≠id) B m g:=by
 refine ⟨J,fun p=>?_,(h.ids.sublist ((Sp).map _))⟩;rw [O,h.mem];constructor
 · rintro ⟨⟨x,G,rfl⟩,K⟩
   exact ⟨x,Fc.2 ⟨G,by simpa using K⟩,V⟩
 · rintro ⟨x,G,rfl⟩
   obtain ⟨I,h2⟩:=Fc.1 G;exact ⟨⟨x,I,V⟩,by simpa using h2⟩
theorem jw:BR prog 28 #[] [] (fun r H'=>∃g mq,r=I5 g/\H'=[[(g,.cells #[.map (some mq),.pointer none] 165 (0,0))],[(mq,.map #[] 0)]]):=by
 refine Se func28 ntmps28 [] ?_;intro u R;refine A1<|A5 Y<|A1<|Ze (DX)<|AG fun mq=>Zv (BM (vs:=[(0,_)]) (cs:=#[_,_]) Y (AY (pl:=#[(0,1),(1,1)]) zeroValue165 R0 (fun _=>by kernel_rfl) V))<|Ze (Bx #[_,_])<|AG fun g=>A5 Y<|AJ<|AP V results28 Y (by exact ⟨g,mq,V,V⟩)
variable{lv:A4}
theorem WT{I mq:Nat}(g:El qs es ck lm){x:Int×QM}(hx:x∈qs):BR prog 87 #[I5 I,I4 x.1] [[(I,.cells #[.map (some mq),lv] 165 (0,0))],[(mq,.map es ck)]] (fun r H'=>∃B m W,r= .bool true/\El (qs.filter fun y=>y.1≠x.1) B m W/\H'=[[(I,.cells #[.map (some mq),.pointer none] 165 (0,0))],[(mq,.map B m)]]):=by
 have Z:=g.get hx;refine Se func87 ntmps87 [0,1] ?_;intro u R;refine A1<|A5 Y<|Zq<|A1<|Zm Y<|Zv (Bh underlying90 Y Y)<|A6<|AU Y (fun G=>by cases G)<|fun G=>AC<|Zx<|A1<|Zm Y<|Zp Y rfl<|Zh 0 R0 rfl rfl cW Y<|Zl cY Y<|Zm Y<|Zo Wh (EU (Cf D4 (D:=fun _=>True)) du Lz g.map (fun _ _=>trivial) (trivial) (⟨by rw [Z];first|done|rfl,by rw [Z];first|done|rfl⟩) Y Y)<|Zm Y<|Zd Y rfl<|Zd Y rfl<|Ze (Al Lz #[_,_,_,_,_,_,_])<|AG fun b1=>Xe (Xw CM _)<|AW Y<|Zn [0,1,6] ?_;refine Zx<|A1<|Zm Y<|Zp Y V<|Zh 0 R0 V rfl cW Y<|Zl cY Y<|Zm Y<|Ze (K6 (Cf D4 (D:=fun _=>True)) du g.map (fun _ _=>trivial) (trivial) Y Y Wo) ?_;rintro _ _ ⟨rfl,K,J,X,O,U,rfl⟩;refine A6<|A1<|Zm Y<|Zp Y V<|Zh 1 R0 V rfl cF Y<|Xe (Zs cF Y Y V)<|A6<|A1<|Zm Y<|A5 Y<|AJ<|AP V results87 Y (by exact ⟨K,J,X,V,nP g _ O U,V⟩)
theorem jy{J mq:Nat}(g:El qs es ck lm){id:Int}(I:∀x∈qs,x.1≠id){q:QM}(hq:BK q)(hl:qs.length<500):BR prog 88 #[I5 J,I4 id,(.agg q.A72:A4)] [[(J,.cells #[.map (some mq),lv] 165 (0,0))],[(mq,.map es ck)]] (fun r H'=>∃B m cu,r=I4 0/\El (qs++[(id,q)]) B m cu/\H'=[[(J,.cells #[.map (some mq),.pointer none] 165 (0,0))],[(mq,.map B m)]]):=by
 have W:=g.none I;have ek:=g.len
 refine Se func88 ntmps88 [0,1,2] ?_;intro u R;refine A1<|Ze (Bx #[_,_,_,_,_,_,_])<|AG fun b1=>A5 Y<|Zq<|A1<|Zm Y<|Zv (Bh underlying90 Y Y)<|A6<|AU Y (fun G=>by cases G)<|fun G=>AC<|Zx<|Zq<|A1<|Zm Y<|Zp Y rfl<|Zh 0 R0 rfl rfl cW Y<|Zl cY Y<|Zm Y<|Zo Wh (EU (Cf D4 (D:=fun _=>True)) du Lz g.map (fun _ _=>trivial) (trivial) (⟨by rw [W];first|done|rfl,by rw [W];first|done|rfl⟩) Y Y)<|Zm Y<|Zd Y rfl<|Zd Y rfl<|Ze (Al Lz #[_,_,_,_,_,_,_])<|AG fun b2=>Xe (Xw CM _)<|AW Y<|Zn [0,1,5,8] ?_;refine Zx<|A1<|Zm Y<|Zm Y<|Ah (t:=21) Y V (fun g1=>by cases g1)<|fun g1=>Dw Y Wh (Pa #[_,_,_,_,_,_,_] F1 CM Y) V rfl<|Xr [_] Y call29 Y V (Jd q) ?_;rw [DG hq];refine Yg (Bt Y)<|Zv (AL Y Y)<|Zm Y<|Ah (t:=26) Y V (fun g2=>by cases g2)<|fun g2=>Zf Y Y<|Yg (Ak Y V)<|Yf 0 R0 V rfl cW Y<|Yl cY Y<|Dw Y Wh (Q9 du g.map Y) V rfl<|Yg (Gi (n:=500) Y Y)<|Zv (AL Y Y)<|Z0<|Zn [0,1,5,33] ?_;refine Zx<|Aw Y (fun h8=>by omega)<|fun h8=>AC<|Zx<|Zq<|BA (n:=13) (0::1::3::7::0::0::0::31::159::479::1023::2047::4095::[]) 4736 AF AF rfl<|A3 0 rfl (AO Y)<|A3 1 rfl (Ak Y rfl)<|A3 2 rfl (AA (off:=0) R0 rfl rfl cW Y)<|BE 3 rfl cY Y<|A3 4 rfl (AO Y)<|A3 5 rfl (AO Y)<|FG 6 rfl Wh (Pa #[_,_,_,_,_,_,_] F1 CM Y)<|Yz 7 31 255 [6,3] [true,false] [(6,(_,_))] rfl Y rfl rfl rfl rfl (Ki (Cf D4 (D:=fun _=>True)) du Lz g.map (fun _ _=>trivial) (trivial) (by rw [W];first|done|rfl) Y Y Wo) ?_;rintro _ _ ⟨dn,d9,gm,j3,gq,rfl,Z,X,U,ax,rfl⟩;refine BW<|A3 8 V (CE Y V)<|Zz (l:=[9])<|B7 [false] [] V rfl (Iu Z X U Y Y Y Wo) ?_ (fun _ _ h=>h.elim) Aj;rintro _ _ ⟨rfl,O,K,cO,af,bn,rfl⟩;refine BW<|A3 10 V (Ak Y V)<|A3 11 V (AA (off:=1) R0 V rfl cF Y)<|Zz (l:=[12])<|B7 [] [] V rfl (Zs cF Y Y V) ?_ (fun _ _ h=>h.elim) Aj;rintro _ _ ⟨rfl,rfl⟩;refine BW<|Ag<|Zn [] ?_;refine Zx<|A1<|A5 Y<|AJ<|AP rfl results88 Y (by exact ⟨O,K,cO,rfl,nQ g I af (fun p=>by rw [bn,ax];exact OE _ _ _ _),rfl⟩)
structure IvM where
 lo:Int
 hi:Int
 rc:Int
 id:Int
deriving Inhabited
def UI(M:List A9)(v:A4)(l:List IvM):Prop:=∃p cap,v= .slice p l.length cap/\(l.length<=maxLen/\l.length<=cap)/\∀(i:Nat) (x:IvM),l[i]?=some x->∃g off cur T zz,p=some ⟨g,off,none⟩/\(g,Obj.cells cur T zz)∈M/\off+i*4+4<=cur.size/\cur.extract (off+i*4) (off+i*4+4)=#[I4 x.lo,I4 x.hi,I4 x.rc,I4 x.id]
variable{l:List IvM}
theorem UI.mono{m:List A9}(h:UI M v l)(K:∀c∈M,c∈m):UI m v l:=by
 obtain ⟨p,cap,e,J,I⟩:=h;refine ⟨p,cap,e,J,fun i x O=>?_⟩;obtain ⟨g,off,cur,T,zz,B,h2,G⟩:=I i x O;exact ⟨g,off,cur,T,zz,B,K _ h2,G⟩
theorem UI.take(h:UI M (.slice p l.length cap) l){k:Nat}(G:k<=l.length):UI M (.slice p k cap) (l.take k):=by
 obtain ⟨J,m,e,I,B⟩:=h;injection e with e1 e2 e3
 subst e1 e3;refine ⟨p,cap,by rw [CD,N3 G],by rw [CD];omega,fun i x g=>B i x ?_⟩;rw [HI]at g;split at g;· exact g
 · cases g
def gu(a b:Int):Int:=if a<b then-1 else if b<a then 1 else 0
theorem ak(a b:Int):gu a b<0↔a<b:=by
 unfold gu;split;· exact ⟨fun _=>by assumption,fun _=>by decide⟩
 · split
   · exact ⟨fun h=>absurd h B1,fun h=>by omega⟩
   · exact ⟨fun h=>absurd h B1,fun h=>by omega⟩
theorem OH{α:Type}(p:α->Bool):∀{l:List α} {e:Nat},e<=l.length->(∀(k:Nat) (x:α),k<e->l[k]?=some x->p x=true)->(∀(k:Nat) (x:α),e<=k->l[k]?=some x->p x=false)->l.takeWhile p=l.take e
 |[],e,_,_,_=>by simp
 |x::l,0,_,_,h2=>by rw [PA,As (by rw [h2 0 x (CI _) rfl];decide),IF]
 |x::l,e+1,he,h1,h2=>by
  rw [PA,Ax (h1 0 x A0 rfl),lz,OH p (by simpa using he) (fun k y m g=>h1 (k+1) y A0 g) (fun k y m g=>h2 (k+1) y A0 g)]
def Ip(v:Int)(l:List IvM):List Int:=(((l.takeWhile fun x=>decide (x.lo<=v)).reverse.takeWhile fun x=>decide (v<=x.rc)).filter fun x=>decide (v<=x.hi)).map (·.id)
def NF(v:Int)(l:List (Nat×IvM)):List Int:=((l.map (·.2)).filter fun x=>decide (v<=x.hi)).map (·.id)
theorem Sj(v:Int)(l:List (Nat×IvM))(x:Nat×IvM):NF v (l++[x])=NF v l++(if v<=x.2.hi then [x.2.id]else []):=by
 unfold NF;rw [C0,Hj,C0];congr 1;by_cases h:v<=x.2.hi;· rw [Ax h];simp [h]
 · rw [As h];simp [h]
theorem NC{α:Type}(p:α->Bool):∀{l:List α},(∀x∈l,p x=true)->l.takeWhile p=l
 |[],_=>rfl
 |x::l,h=>by rw [PA,Ax (h x (E0 ..)),NC p fun y g=>h y (E7 _ g)]
theorem Lg{α:Type}(p:α->Bool){x:α}(g:p x=false)(m:List α):∀{l:List α},(∀y∈l,p y=true)->(l++x::m).takeWhile p=l
 |[],_=>by rw [Kx,PA,As (by rw [g];decide)]
 |y::l,h=>by rw [PJ,PA,Ax (h y (E0 ..)),Lg p g m fun z hz=>h z (E7 _ hz)]
variable{e:Nat}
theorem vG{v:Int}(m:l.takeWhile (fun x=>decide (x.lo<=v))=l.take e)(h:∀y∈bwd (l.take e),v<=y.2.rc):NF v (bwd (l.take e))=Ip v l:=by
 unfold NF Ip;rw [m,Jn,NC];intro x g;rw [<-Jn]at g;obtain ⟨y,B,rfl⟩:=C6.1 g;exact DG (h y B)
theorem oL{v:Int}(m:l.takeWhile (fun x=>decide (x.lo<=v))=l.take e){pre post:List (Nat×IvM)}{x:Nat×IvM}(g:bwd (l.take e)=pre++x::post)(h:∀y∈pre,v<=y.2.rc)(B:x.2.rc<v):NF v pre=Ip v l:=by
 unfold NF Ip;rw [m,<-Jn,g,C0,Dd,Lg _ (by simpa using B)];intro z hz;obtain ⟨y,G,rfl⟩:=C6.1 hz;exact DG (h y G)
theorem gZ{v:Int}(K:l.takeWhile (fun x=>decide (x.lo<=v))=l.take e){pre post:List (Nat×IvM)}{x:Nat×IvM}(J:bwd (l.take e)=pre++x::post)(h:∀y∈pre++[x],v<=y.2.rc)(O:v<=x.2.hi):∃g,Ip v l=NF v pre++x.2.id::g:=by
 unfold NF Ip;have I:∀{A:List IvM} {B:List IvM},(∀y∈A,decide (v<=y.rc)=true)->∃C,(A++B).takeWhile (fun x=>decide (v<=x.rc))=A++C:=fun{A B} hA=>by
  induction A with
  |nil=>exact ⟨_,rfl⟩
  |cons a A ih=>
   obtain ⟨C,m⟩:=ih fun y G=>hA y (E7 _ G);exact ⟨C,by rw [PJ,PA,Ax (hA a (E0 ..)),m,PJ]⟩
 rw [K,<-Jn,J,show pre++x::post=(pre++[x])++post by simp,C0];obtain ⟨C,m⟩:=I (A:=(pre++[x]).map Prod.snd) (B:=post.map Prod.snd) fun z hz=>by
  obtain ⟨y,G,rfl⟩:=C6.1 hz;exact DG (h y G)
 rw [m,C0,Hj,Hj,C0,C0];refine ⟨(C.filter fun x=>decide (v<=x.hi)).map (·.id),?_⟩;simp [O]
theorem TU(x:Int):BJ prog 227 #[I4 x] [] (.bool false):=by
 refine Se func227 ntmps227 [0] ?_;intro u R;refine A1<|A5 Y<|A1<|Zm Y<|Zm Y<|Zv (Im Y Y)<|A5 Y<|AJ<|AP V results227 Y (by exact ⟨by simp,V⟩)
theorem Xb(a b:Int):BJ prog 178 #[I4 a,I4 b] [] (I4 (gu a b)):=by
 refine Se func178 ntmps178 [0,1] ?_;intro u R;refine A1<|A5 Y<|A1<|Zm Y<|Xr [_] Y call227 Y V (TU _)<|A5 Y<|A1<|Zm Y<|Xr [_] Y call227 Y V (TU _)<|A5 Y<|Zq<|A1<|Zm Y<|A6<|AU Y (fun g=>by cases g)<|fun g=>AC<|Zx<|Zq<|A1<|Zm Y<|A6<|AU Y (fun h2=>by cases h2)<|fun h2=>AC<|Zx<|Zq<|A1<|Zm Y<|Zm Y<|Zv (EH Y Y)<|A6<|Aw Y (fun m=>?_) (fun m=>?_);·
  refine A1<|AW Y<|Zn [4] ?_;refine Zx<|AJ<|Zt<|AP V results178 Y (by exact ⟨by unfold gu;simp [*],V⟩)
 refine AC<|Zx<|Zq<|A1<|Zm Y<|Zm Y<|Zv (Ed Y Y)<|Z0<|Zn [19] ?_;refine Zx<|Aw Y (fun B=>?_) (fun B=>?_);·
  refine A1<|A5 Y<|AJ<|Zt<|AP V results178 Y (by exact ⟨by unfold gu;simp [*],V⟩)
 refine AC<|Zx<|A1<|A5 Y<|AJ<|AP V results178 Y (by exact ⟨by unfold gu;simp [*],V⟩)
theorem ZE(x:IvM)(t:Int):BJ prog 216 #[.agg #[I4 x.lo,I4 x.hi,I4 x.rc,I4 x.id],I4 t] [] (I4 (gu x.lo t)):=by
 refine Se func216 ntmps216 [0,1] ?_;intro u R;refine A1<|Ze (Bx #[_,_,_,_])<|AG fun g=>A5 Y<|A1<|Zh 0 Z1 V rfl AE Y<|Zl AH Y<|Zm Y<|Xr [_,_] Y call178 Y V (Xb _ _)<|A5 Y<|AJ<|AP V results216 Y (by exact ⟨V,V⟩)
theorem Xg(hv:UI M v l)(hn:l.length<=1000000)(hs:l.Pairwise fun a b=>a.lo<=b.lo)(t:Int):BR prog 215 #[v,I4 t,.func (.func 216) #[] #[]] [M] (fun r H'=>∃(e:Nat) (b:Bool),r= .tuple #[I4 (e:Int),.bool b]/\e<=l.length/\(∀(k:Nat) (x:IvM),k<e->l[k]?=some x->x.lo<t)/\(∀(k:Nat) (x:IvM),e<=k->l[k]?=some x->t<=x.lo)/\H'=[M]):=by
 have cO:=mL;obtain ⟨p,cap,rfl,⟨hl,cu⟩,hg⟩:=id hv;have J:∀(i j:Nat) (x y:IvM),i<=j->l[i]?=some x->l[j]?=some y->x.lo<=y.lo:=fun i j x y af G I=>by
  rcases FF i j with h|h
  · obtain ⟨h1,rfl⟩:=C4.1 G
    obtain ⟨h2,rfl⟩:=C4.1 I;exact en.1 hs i j h1 h2 h
  · obtain rfl:i=j:=by omega
    rw [G]at I;injection I with I;rw [I];exact V2 _
 refine Se func215 ntmps215 [0,1,2] ?_;intro u R;refine A1<|Za Y<|A5 Y<|A1<|Zm Y<|Zv (Ac fm Y)<|A5 Y<|A1<|Zm Y<|Za Y<|A5 Y<|Zq<|AQ<|Zb [9,10,0,1,2,8] ?_;refine BI (e0:=[(9,_),(10,_)]) (fun m e H=>∃(i j:Nat),m=j -i/\((i<=j/\j<=l.length)/\(∀(k:Nat) (x:IvM),k<i->l[k]?=some x->x.lo<t)/\(∀(k:Nat) (x:IvM),j<=k->l[k]?=some x->t<=x.lo))/\e=[(9,I4 (i:Int)),(10,I4 (j:Int))]/\H=[]) (by exact ⟨0,l.length,rfl,⟨⟨C7 _,CI _⟩,fun k x h=>absurd h (fW k),fun k x h G=>by rw [MT h]at G;cases G⟩,rfl,rfl⟩) Wp ?_;rintro _ _ _ ⟨i,j,rfl,⟨⟨af,W⟩,O,K⟩,rfl,rfl⟩;refine Zq<|A1<|Zm Y<|Zm Y<|Zv (Ay Y Y)<|A6<|Aw Y (fun ax=>?_) (fun ax=>?_);·
  refine AC<|Zx<|AQ<|A1<|Zm Y<|Zm Y<|Ya Y Y ?_;refine BU (M0 D4 X2 Y A0)<|BU (Q4 (n:=1) Y Y (by first|decide|(simp [IntKind.bits];done)|(simp [IntKind.bits];omega)))<|BU (TC X2 D4 Y A0)<|A5 Y<|Zq ?_;obtain ⟨h,hh⟩:∃h,h=(i+j)/2^1:=⟨_,rfl⟩;rw [<-hh];have bn:i<=h/\h<j:=by rw [hh];omega
  obtain ⟨x,G⟩:∃x,l[h]?=some x:=⟨_,BT A0⟩;obtain ⟨g,off,cur,T,zz,rfl,U,X,B⟩:=hg _ _ G;refine Zg<|Zm Y<|Zm Y<|Zm Y<|BU (Ae fm Nd Y Y A0)<|CS (IX Wo (U)) (AB (cs:=#[_,_,_,_]) isAgg277 Nd Y A0 B) V rfl<|Zm Y<|Xr [_,_] Y call216 Y V (ZE x t)<|Zv (EH Y Y)<|Z0<|Zn [0,1,2,8,9,10,11,31] ?_;refine Zx<|Aw Y (fun Z=>?_) (fun Z=>?_);·
   refine Zg<|Zm Y<|Ya (n:=1) Y Y<|AW Y<|A8<|Zn [9,10,0,1,2,8] ?_;refine Aa (e':=[(9,_),(10,_)]) (by exact ⟨h+1,j,V,⟨⟨by omega,by omega⟩,fun k y hk I=>by have:=J k h y x A0 I G;have:=(ak _ _).1 Z;omega,K⟩,V,V⟩)
  refine Zg<|Zm Y<|AW Y<|A8<|Zn [9,10,0,1,2,8] ?_;refine Aa (e':=[(9,_),(10,_)]) (by exact ⟨i,h,V,⟨⟨by omega,by omega⟩,O,fun k y hk I=>by have:=J h k x y hk G I;have:=mt (ak x.lo t).2 Z;omega⟩,V,V⟩)
 obtain rfl:i=j:=by omega
 refine BD<|Zt<|Zt<|AV<|Zx<|A1<|Zm Y<|Zm Y<|Zm Y<|Zv (Ay Y Y)<|Zm Y<|Ao (t:=39) Y V (fun h5=>?_) (fun h5=>?_);·
  obtain ⟨x,G⟩:∃x,l[i]?=some x:=⟨_,BT A0⟩;obtain ⟨g,off,cur,T,zz,rfl,U,X,B⟩:=hg _ _ G;refine Zf Y Y<|Zf Y Y<|Zf Y Y<|GU Y (Ae fm Nd Y Y A0) V rfl ?_;refine Ng Y (IX Wo (U)) (AB (cs:=#[_,_,_,_]) isAgg277 Nd Y A0 B) V rfl ?_;refine Zf Y Y<|Xr [_,_] Y call216 Y V (ZE x t)<|Yg (CP Y Y)<|Zv (AX Y Y)<|Za Y<|AW Y<|Zn [6,7] ?_;refine Zx<|AJ<|DJ V results215 Y Y (by exact ⟨i,_,V,W,O,K,V⟩)
 refine A7 Y V<|A7 Y V<|A7 Y V<|A7 Y V<|A7 Y V<|A7 Y V<|A7 Y V<|A7 Y V<|Zv (AL Y Y)<|Za Y<|AW Y<|Zn [6,7] ?_;refine Zx<|AJ<|DJ V results215 Y Y (by exact ⟨i,_,V,W,O,K,V⟩)
theorem bF(p:B8)(n c:Nat):BR prog 217 #[.slice p n c] [] (fun r H'=>∃b,r= .func (.func 249) #[] #[I5 b]/\H'=[[(b,.cells #[.slice p n c] 278 (0,0))]]):=by
 refine Se func217 ntmps217 [0] ?_;intro u R;refine A1<|Ze (Bx #[_])<|AG fun b=>A5 Y<|A1<|Zv (Bg (vs:=[]) (us:=[_]) Y Y)<|A5 Y<|AJ<|AP V results217 Y (by exact ⟨_,V,V⟩)
theorem bG{ls:List IvM}(hv:UI M v ls)(b:Nat)(hn:ls.length<=1000000):Kb prog 249 #[I5 b] [[(b,.cells #[v] 278 (0,0))]] (fun s=>∀c∈M,c∈s) (fun x:Nat×IvM=>#[I4 ((x.1:Nat):Int),.agg #[I4 x.2.lo,I4 x.2.hi,I4 x.2.rc,I4 x.2.id]]) (bwd ls):=by
 have bn:=mL;obtain ⟨p,cap,rfl,hl,hg⟩:=hv;intro l J Jx hA hy s B;refine Se func249 ntmps249 [0,1] ?_;intro u R;refine A1<|Zl isAgg278 Y ?_;refine Zv (Ac fm Y) ?_
 (refine BU (FP Y Y (IntWalk.i64_in _ ?_)) ?_;(focus (omega)))
 refine A5 Y<|AQ<|Zb [3,0,1] ?_;refine BI (e0:=[(3,_)]) (fun m e H=>∃(k:Nat) (s:List A9),m=0+k/\(k<=ls.length/\J ((bwd ls).take (ls.length -k)) s)/\e=[(3,I4 ((k:Int) -1))]/\H=[[(b,.cells #[.slice p ls.length cap] 278 (0,0))],s]) (by exact ⟨ls.length,s,rfl,⟨CI _,by rw [T5,IF];exact B⟩,rfl,rfl⟩) Wp ?_;rintro _ _ _ ⟨k,s,rfl,⟨hk,B⟩,rfl,rfl⟩;refine Zq<|A1<|Zm Y<|Zv (Gj Y Y)<|A6<|Aw Y (fun X=>?_) (fun X=>?_);·
  obtain ⟨m,rfl⟩:∃m,k=m+1:=⟨k -1,by omega⟩;rw [show(((m+1:Nat):Int) -1)=((m:Nat):Int) by omega];obtain ⟨z9,O⟩:∃z9,ls[m]?=some z9:=⟨_,BT A0⟩;have I:=Xf O
  obtain ⟨g,o,cur,T,zz,rfl,hm,ax,K⟩:=hg m z9 O;have Z:=hy _ _ _ s (KA I) B
  refine AC<|Zx<|Zq<|AQ<|A1<|Zm Y<|Zm Y<|Zl isAgg278 Y ?_;refine Zm Y<|BU (Ae fm Nd Y Y A0)<|CS (IX Wo (hA _ s B _ hm)) (AB (cs:=#[_,_,_,_]) isAgg277 Nd Y A0 K) V rfl ?_;refine Ze (Fe (vs:=[_,_]) Y Y (Z) Wp) ?_;rintro _ _ ⟨_,⟨s',rfl,af⟩,rfl⟩;rcases af with⟨rfl,U⟩|⟨rfl,hJx⟩
  ·
   refine Zv (Bt Y)<|A6<|AU Y (fun G=>by cases G)<|fun G=>AC<|A8<|Zx<|Zg<|Zm Y ?_
   (refine BU (FP Y Y (IntWalk.i64_in _ ?_)) ?_;(focus (omega)))
   refine AW Y<|Zn [3,0,1] ?_;refine Aa (e':=[(3,_)]) (by exact ⟨m,s',rfl,⟨by omega,by rw [show ls.length -m=ls.length -(m+1)+1 by omega,Bn I];exact U⟩,rfl,rfl⟩)
  refine Zv (Bt Y)<|A6<|AU Y (fun G=>?_) (fun G=>?_);·
   refine AJ<|Ab<|Zt<|Zt<|Ab ?_;refine Ce V results249 (by exact ⟨s',V,.inr ⟨_,hJx⟩⟩)
  cases G
 have W:k=0:=by omega
 subst W;rw [S5,Hx (by rw [RO];exact CI _)]at B;refine BD<|Zt<|Zt<|AV<|Ce V results249 (by exact ⟨s,V,.inl B⟩)
theorem Xa(hv:UI M lv l)(hn:l.length<=1000000)(hs:l.Pairwise fun a b=>a.lo<=b.lo)(v:Int)(ic:-1000000000000<=v/\v<=1000000000000)(bl X:Nat):Ef prog 214 #[I5 bl,I5 X] [[(bl,.cells #[lv] 278 (0,0))],[(X,.cells #[I4 v] 3 (0,0))]] (fun s=>∀c∈M,c∈s) (fun i:Int=>#[I4 i]) (Ip v l):=by
 have gy:=mL;obtain ⟨p,cap,rfl,⟨hl,gq⟩,hg⟩:=id hv;intro ly J hA W s B;refine DU func214 V ntmps214 V ?_;intro u R;refine Zb [0,1,2] ?_;refine A1<|Ze (Bx #[_])<|AG fun by_=>A6<|A1<|Zl isAgg278 Y ?_;refine Zl AH Y ?_;refine Yi Y Y<|Zc [_,_,_] Y call215 Y V (Xg (hv.mono (hA _ s B)) hn hs (v+1)) ?_;rintro _ _ ⟨_,⟨e,fb,rfl,O,bn,cu,rfl⟩,rfl⟩;have K:l.takeWhile (fun x=>decide (x.lo<=v))=l.take e:=OH _ O (fun k x hk hx=>DG (by have:=bn k x hk hx;omega)) (fun k x hk hx=>Cl (by have:=cu k x hk hx;omega))
 refine Zm Y<|Zd Y V<|Zd Y V<|Za Y<|A5 Y<|A1<|Zl isAgg278 Y ?_;refine Zm Y<|BU (Bq fm Nd Y Y A0)<|Zc [_] Y call217 Y V (bF _ _ _) ?_;rintro _ _ ⟨_,⟨bb,rfl,rfl⟩,rfl⟩;refine Z0<|Zn [2,3,18] ?_;refine Zx<|AQ<|Zb [2,3,18] ?_;refine PQ (Ix:=(fun(_:List (Nat×IvM)) H=>∃s,J (Ip v l) s/\H=[[(X,.cells #[I4 v] 3 (0,0))],[(by_,.cells #[.func (.yield ly) #[] #[]] 86 (0,0))],s])) (H0:=_) (R:=_) (I:=(fun(pre:List (Nat×IvM)) H=>∃s,(J (NF v pre) s/\∀y∈pre,v<=y.2.rc)/\H=[[(X,.cells #[I4 v] 3 (0,0))],[(by_,.cells #[.func (.yield ly) #[] #[]] 86 (0,0))],s])) (E:=fun x e Hn=>∃bx,e=[(7,I5 bx),(20,.agg #[I4 x.2.lo,I4 x.2.hi,I4 x.2.rc,I4 x.2.id]),(19,I4 ((x.1:Nat):Int))]/\Hn=[[(bx,.cells #[I4 x.2.lo,I4 x.2.hi,I4 x.2.rc,I4 x.2.id] 277 (0,0))]]) rfl Y call249 (bG (hv.take O) bb (by rw [CD];omega)) (by rintro pre _ c d ⟨s,Z,rfl⟩;intro q hq;have:=hA _ s Z.1 q hq;simp [this]) Y rfl Wp (⟨s,⟨B,fun y W=>by simp at W⟩,rfl⟩) ?ha_2 ?hbd_2 ?hk_2 ?hkx_2
 case ha_2=>
  intro _ x _ _;refine Zg<|Ze (Al zeroValue277 #[_,_,_,_])<|AG fun b2=>Xe (Xw Nd _) ?_;refine Z0<|L6 (e:=[(7,_),(20,_),(19,_)]) (Hn:=[[(_,_)]]) ?_;exact ⟨_,V,V⟩
 case hbd_2=>
  intro l pre x post u e9 gm H1 R1 r9 U hI af;obtain ⟨bx,rfl,rfl⟩:=af;obtain ⟨s,⟨B,m⟩,rfl⟩:=hI;refine AQ<|Zq<|A1<|Zh 2 Z1 V rfl AE Y<|Zl AH Y ?_;refine Zl AH Y ?_;refine Zv (EH Y Y)<|A6<|Aw Y (fun Z=>?_) (fun Z=>?_);·
   refine AJ<|Zt<|Ab ?_;refine Vd rfl (by exact ⟨s,by rw [<-oL K U m Z];exact B,rfl⟩)
  have g:∀y∈pre++[x],v<=y.2.rc:=fun y W=>(C2.1 W).elim (m y) (fun h=>by rw [C5.1 h];omega);refine AC<|Zx<|A1<|Zh 1 Z1 V rfl AE Y<|Zl AH Y ?_;refine Zl AH Y ?_;refine Zv (Gj Y Y)<|Zm Y<|Ao (t:=29) Y V (fun h2=>?_) (fun h2=>?_);·
   obtain ⟨dn,cO⟩:=gZ K U g h2;have d9:=W _ _ _ s cO B
   refine Yl isAgg86 Y ?_;refine Yf 3 Z1 V rfl AE Y<|Yl AH Y ?_;refine Ze (Fe (vs:=[_]) Y Y (d9) Wp) ?_;rintro _ _ ⟨_,⟨s',rfl,rfl,ax⟩,rfl⟩;refine Yg (Bt Y)<|Zv (AX Y Y)<|Z0<|Zn [35] ?_;refine Zx<|AU Y (fun hb=>by cases hb)<|fun hb=>AC<|A8<|QC rfl (by exact ⟨s',⟨by rw [Sj,Ax h2];exact ax,g⟩,rfl⟩)
  refine A7 Y V<|A7 Y V<|A7 Y V<|A7 Y V<|A7 Y V<|Zv (AL Y Y)<|Z0<|Zn [35] ?_;refine Zx<|D9 Y<|AC<|A8<|QC rfl (by exact ⟨s,⟨by rw [Sj,As h2,D2];exact B,g⟩,rfl⟩)
 case hk_2=>
  intro D1 H2 G;obtain ⟨s,⟨B,m⟩,rfl⟩:=G;rw [vG K m]at B;refine Zn [] ?_;refine A8<|Fv V (nB results214) Wo (by exact ⟨s,V,B⟩)
 intro D1 ek H2 G;obtain ⟨s,B,rfl⟩:=G;refine Ab ?_;refine Fv V (nB results214) Wo (by exact ⟨s,V,B⟩)
end Go.Proofs.YthhakdmlpngcmaaGreatDoor
