/- Records encoded, in plain words; slices.Clone of changes. -/
/- Copies: changes, strings, paths. -/
/- ownRecord, ownEntry. -/
/- The index of queries: New, Add, Remove. -/
/- Intervals that contain a value. -/
/-
  The sort with a function lies in the program: laid at rows (printed by the kit, in plain words).
-/
/- Intervals sorted. -/
/- newIntervals. -/
/- What an index of intervals answers (plain). -/
/- make's two maps: families of rows. -/
/- query.Scan; make. -/
/- Which queries the loop of make has seen (plain). -/
/- The rows of a change; the numbers of queries near a change. -/
/- near: the numbers of queries near a change. -/
/- Rows read by membership (plain). -/
/- What make leaves (plain). -/
/- make. -/
/- What a change touches is near it (plain). -/
/- The keys of a map, sorted: int. -/
import Derived.Test.YteaiajghbkenoaaGreatDoorEz
import Derived.Test.YteaiajghbkenoaaGreatDoorPy5
import Derived.Test.YteaiajghbkenoaaGreatDoorEx36
import Derived.Test.YteaiajghbkenoaaGreatDoorQe3
import Derived.Test.YteaiajghbkenoaaGreatDoorTr6
import Derived.Test.YteaiajghbkenoaaGreatDoorQe1
import Derived.Shelf.SlSortCmp.WholeK
import Derived.Test.YteaiajghbkenoaaGreatDoorProg
import Derived.Test.YteaiajghbkenoaaGreatDoorDg4
import Derived.Test.YteaiajghbkenoaaGreatDoorLg9
import Derived.Test.YteaiajghbkenoaaGreatDoorPr3
import Derived.Test.YteaiajghbkenoaaGreatDoorLg4
import Derived.Test.YteaiajghbkenoaaGreatDoorEx5
set_option linter.unusedVariables false
set_option linter.unusedSimpArgs false
namespace Go.Proofs.YteaiajghbkenoaaGreatDoor
open Go.Proofs.Tryz
open Go Go.RowKit Gw
set_option maxRecDepth 100000
attribute [local irreducible] Gw.At Gw.Nx Gw.Ops
def fl1(c:Chg):Int:=if c.had then 1 else 0
def vs1(c:Chg):List Int:=if c.had then [c.o.a,c.o.b,c.o.c]else []
def fl2(c:Chg):Int:=if c.has then fl1 c+2 else fl1 c
def vs2(c:Chg):List Int:=if c.has then vs1 c++[c.n.a,c.n.b,c.n.c]else vs1 c
def tf(c:Chg):List UInt8:=Hr [c.t,c.k,fl2 c]++Hr (vs2 c)
def zR(p:Int)(cs:List Chg):List UInt8:=Hr [p,(cs.length:Int)]++cs.flatMap tf
variable{cs:List Chg}
theorem EH.mem{p:Int}(h:EH p cs):∀c∈cs,c.ok:=fun c hc=>by
 obtain ⟨i,hi⟩:=GW hc;exact h.all i c hi
variable{cap n:Nat}
theorem MN{sz:Nat}{e:TypeId}{g:Nat}{cur:Array Value}{z:Nat×Nat}{xs:List Value}(h:Bb sz e (I6 g n cap) n xs [(g,.cells cur e z)]){j:Nat}{u:Value}(G:xs[j]?=some u):cur[j]?=some u:=by
 obtain ⟨U,⟨m,_⟩|⟨K,I,J,W,m,h2,_,_,_,B,_⟩⟩:=h
 · cases m
 · injection m with m _ h3
   injection h2 with h2 _
   injection h2 with h4 h5
   injection h5 with h5 _ _
   subst h5;have O:=(B9.1 G).1
   rw [<-B,HA,AM A1]at G;simpa using G
variable{p:Option Addr}
theorem iR{sz:Nat}{e:TypeId}{xs:List Value}{s:List A9}(h:Bb sz e (.slice p n cap) n xs s)(h0:0<n):∃g cur z,p=some ⟨g,0,none⟩/\s=[(g,.cells cur e z)]/\IZ z cur.size/\cur.size=cap*sz/\n<=cap/\cap<=maxLen:=by
 obtain ⟨O,⟨m,h2,_⟩|⟨g,B,cur,z,m,rfl,h2,G,I,K,J⟩⟩:=h
 · omega
 · injection m with m _ h7
   subst h7;exact ⟨g,cur,z,m,V,J,I,h2,G⟩
variable{M:List A9}
theorem gN(h:Cr M (.slice p n cap) cs):FJ M p (Cg cs):=by
 obtain ⟨G,m,e,_,B⟩:=h;injection e with e1 e2 e3
 subst e1;exact Nl _ 10 (fun _=>rfl) AW fun i z hz=>B i z hz
theorem bW{ls:List Bs}(h:ET M (.slice p n cap) ls):FJ M p (ls.map G9):=by
 obtain ⟨I,B,e,_,G⟩:=h;injection e with e1 e2 e3
 subst e1;intro j u m;rw [DM]at m;cases hs:ls[j]?with
 |none=>rw [hs]at m;cases m
 |some s=>rw [hs]at m;injection m with m;subst m;exact G j s hs
theorem oK(ls:List Bs):∀u∈ls.map G9,u.oneCell'=true:=by
 intro u m;obtain ⟨z,_,rfl⟩:=Bk.1 m;rfl
variable{ps:List (List Bs)}
theorem dY(h:MF M (.slice p n cap) ps):∃m,Jr M m ps/\FJ M p m/\∀u∈m,u.oneCell'=true:=by
 obtain ⟨p',af,e,_,hg⟩:=h;injection e with e1 e2 e3
 subst e1;have key:∀k,k<=ps.length->∃m:List Value,m.length=k/\∀(i:Nat) (l:List Bs),i<k->ps[i]?=some l->∃q c,m[i]?=some (.slice q l.length c)/\ET M (.slice q l.length c) l/\∃g off cur T zz,p=some ⟨g,off,none⟩/\(g,Obj.cells cur T zz)∈M/\cur[off+i]?=some (.slice q l.length c):=by
  intro k;induction k with
  |zero=>intro _;exact ⟨[],rfl,fun i l h=>absurd h (eI i)⟩
  |succ k ih=>
   intro hk;obtain ⟨m,O,h2⟩:=ih A1;obtain ⟨l,G⟩:∃l,ps[k]?=some l:=⟨_,B4 A1⟩;obtain ⟨q,c,I,W⟩:=hg k l G;refine ⟨m++[.slice q l.length c],by rw [B7,O];rfl,fun i l' hi B=>?_⟩;rcases Dg i k with U|U
   · obtain ⟨q',c',X,Z⟩:=h2 i l' U B
     exact ⟨q',c',by rw [Wr A1];exact X,Z⟩
   · obtain rfl:i=k:=by omega
     rw [G]at B;injection B with B;subst B
     exact ⟨q,c,by rw [OS A1,O];simp,I,W⟩
 obtain ⟨m,O,h2⟩:=key ps.length (CD _);refine ⟨m,⟨O,fun i v l hv G=>?_⟩,fun j u J=>?_,fun u J=>?_⟩
 · obtain ⟨q,c,I,W,_⟩:=h2 i l (B9.1 G).1 G
   rw [I]at hv;injection hv with hv;subst hv;exact W
 · have K:=(B9.1 J).1
   obtain ⟨l,G⟩:∃l,ps[j]?=some l:=⟨_,B4 A1⟩;obtain ⟨q,c,I,_,g,off,cur,T,zz,U,X,Z⟩:=h2 j l A1 G;rw [I]at J;injection J with J;subst J
   exact ⟨g,off,cur,T,zz,U,X,Z⟩
 · obtain ⟨j,K⟩:=GW J
   have ax:=(B9.1 K).1;obtain ⟨l,G⟩:∃l,ps[j]?=some l:=⟨_,B4 A1⟩;obtain ⟨q,c,I,_⟩:=h2 j l A1 G;rw [I]at K;injection K with K;subst K;rfl
def RP.fits(x:RP):Prop:=x.rows.length<=1000000/\x.paths.length<=1000000/\x.roots.length<=1000000/\∀l∈x.paths,l.length<=1000000
theorem WP(Z:List RPZ):(Z.flatMap Ef).length=Z.length*9:=by
 induction Z with
 |nil=>rfl
 |cons a l ih=>rw [HL,B7,ih];show 9+_=_;rw [DH];omega
variable{i:Nat}
theorem bH{A B:List RPZ}{z:RPZ}(m:A.length=i)(k:Nat)(G:k<9):((A++z::B).flatMap Ef)[i*9+k]?=(Ef z)[k]?:=by
 rw [N1,HL,OS (by rw [WP];omega),WP,m,show i*9+k -i*9=k by omega,Wr (by exact G)]
theorem yS{A B:List RPZ}{z:RPZ}(I:A.length=i)(a b c:Option Addr)(m G c':Nat):
 ((((A++z::B).flatMap Ef).set (i*9+6) (.slice a z.x.rows.length m)).set (i*9+8) (.slice b z.x.roots.length G)).set (i*9+7) (.slice c z.x.paths.length c')=(A++[(⟨z.x,a,m,c,c',b,G⟩:RPZ)]++B).flatMap Ef:=by
 have e:∀(l:List Value) (k:Nat) (v:Value),(A.flatMap Ef++l).set (i*9+k) v=A.flatMap Ef++l.set k v:=fun l k v=>by
  rw [j7 _ _ (by rw [WP];omega),WP,I,show i*9+k -i*9=k by omega]
 rw [CN,N1,N1,HL,e,e,e];rfl
variable{v:Value}
theorem Uf(hv:Cr M v cs)(Z:cs.length<=1000000):BZ prog 108 #[v] [M] (fun r H'=>∃K,Bb 10 69 r cs.length (Cg cs) K/\H'=[K,M]):=by
 have W:=mL;have B:=hv
 obtain ⟨p,cap,rfl,hl,U⟩:=id hv;replace B:=gN B;refine Se func108 ntmps108 [0] ?_;intro u R;refine A0<|A3 Y<|Zq<|A0<|Zm Y<|Zv (Dn G4 Y Y)<|A4<|AX Y (fun J=>?_) (fun J=>?_)
 ·
  have G:p=none:=by cases p with
   |none=>rfl
   |some x=>cases J
  have h0:cs=[]:=by
   cases cs with
   |nil=>rfl
   |cons x l=>obtain ⟨g,off,cur,T,zz,I,_⟩:=U 0 x rfl;rw [G]at I;cases I
  refine Zq<|BV<|Zg<|A3 Y<|AJ<|Zt<|AP rfl results108 Y (by exact ⟨[],by rw [h0];exact Bf 10 _,rfl⟩)
 refine AC<|Zx<|A0<|Ze (EM G4 C3)<|AD fun O=>Zm Y<|Ze (Ha (by_:=80) (sz:=10) G4 (V:Tryz.prog.info? 69=some Tryz.t69) V rfl V rfl Y (IP 10 69 O 0 [] V AW) Y (B) (by exact G5 _) AW Wo Wo (by exact PN _) A1 A1) ?_;rintro _ _ ⟨X,m,rfl⟩;replace m:=BS m (Cl _) (Ks _);refine A3 Y<|AJ<|AP V results108 Y (by exact ⟨_,m,V⟩)
theorem Mv{ls:List Bs}(hv:ET M v ls)(Z:ls.length<=1000000):BZ prog 123 #[v] [M] (fun r H'=>∃K,Bb 1 9 r ls.length (ls.map G9) K/\H'=[K,M]):=by
 have W:=mL;have B:=hv
 obtain ⟨p,cap,rfl,hl,U⟩:=id hv;replace B:=bW B;refine Se func123 ntmps123 [0] ?_;intro u R;refine A0<|A3 Y<|Zq<|A0<|Zm Y<|Zv (Dn Cd Y Y)<|A4<|AX Y (fun J=>?_) (fun J=>?_)
 ·
  have G:p=none:=by cases p with
   |none=>rfl
   |some x=>cases J
  have h0:ls=[]:=by
   cases ls with
   |nil=>rfl
   |cons x l=>obtain ⟨g,off,cur,T,zz,I,_⟩:=U 0 x rfl;rw [G]at I;cases I
  refine Zq<|BV<|Zg<|A3 Y<|AJ<|Zt<|AP rfl results123 Y (by exact ⟨[],by rw [h0];exact Bf 1 _,rfl⟩)
 refine AC<|Zx<|A0<|Ze (EM Cd F1)<|AD fun O=>Zm Y<|Ze (Ha (by_:=16) (sz:=1) Cd (V:Tryz.prog.info? 9=some Tryz.t9) V rfl V rfl Y (IP 1 9 O 0 [] V AW) Y (B) (by(rw [B2,Mn])) AW Wo Wo (by exact oK _) A1 A1) ?_;rintro _ _ ⟨X,m,rfl⟩;replace m:=BS m (Cl _) (Ks _);refine A3 Y<|AJ<|AP V results123 Y (by exact ⟨_,m,V⟩)
theorem Sk(hv:MF M v ps)(hb:ps.length<=1000000):BZ prog 124 #[v] [M] (fun r H'=>∃X B,Jr M B ps/\Bb 1 45 r ps.length B X/\H'=[X,M]):=by
 have ax:=mL;have G:=hv
 obtain ⟨p,cap,rfl,⟨hl,af⟩,hg⟩:=id hv;obtain ⟨B,J,G,I⟩:=dY G;have O:=J.1
 refine Se func124 ntmps124 [0] ?_;intro u R;refine A0<|A3 Y<|Zq<|A0<|Zm Y<|Zv (Dn LL Y Y)<|A4<|AX Y (fun W=>?_) (fun W=>?_)
 ·
  have K:p=none:=by cases p with
   |none=>rfl
   |some x=>cases W
  have h0:ps=[]:=by
   cases ps with
   |nil=>rfl
   |cons x l=>obtain ⟨_,_,_,g,off,cur,T,zz,U,_⟩:=hg 0 x rfl;rw [K]at U;cases U
  refine Zq<|BV<|Zg<|A3 Y<|AJ<|Zt<|AP rfl results124 Y (by exact ⟨[],[],by rw [h0];exact Q4 _,by rw [h0];exact Bf 1 _,rfl⟩)
 refine AC<|Zx<|A0<|Ze (EM LL HH)<|AD fun Z=>Zm Y<|Ze (Ha (by_:=24) (sz:=1) LL (V:Tryz.prog.info? 45=some Tryz.t45) V rfl V rfl Y (IP 1 45 Z 0 [] V AW) Y (G) (by(rw [Mn];exact O)) AW Wo Wo (by exact I) A1 A1) ?_;rintro _ _ ⟨bn,m,rfl⟩;replace m:=BS m (Cl _) (Ks _);refine A3 Y<|AJ<|AP V results124 Y (by exact ⟨_,B,J,m,V⟩)
theorem dZ{J s:List A9}{B:List Value}{k:Nat}{U:Value}{O:List Bs}(h:∀(j:Nat) (v:Value) (l:List Bs),B[j]?=some v->ps[j]?=some l->if j<k then ET J v l else ET M v l)(Z:B.length=ps.length)(hk:k<ps.length)(X:ps[k]?=some O)(W:ET s U O):
 ∀(j:Nat) (v:Value) (l:List Bs),(B.set k U)[j]?=some v->ps[j]?=some l->if j<k+1 then ET (s++J) v l else ET M v l:=by
 intro j v l hv m;rw [Sf]at hv;by_cases K:k=j
 · subst K
   rw [AM rfl,AM A1]at hv;injection hv with hv
   rw [X]at m;injection m with m
   subst hv m;rw [AM A1];exact W.mono fun c hc=>DP _ hc
 · rw [AK K]at hv
   have I:=h j v l hv m;by_cases G:j<k
   · rw [AM G]at I
     rw [AM A1];exact I.mono fun c hc=>Fm _ hc
   · rw [AK G]at I
     rw [AK A1];exact I
theorem mr{α:Type}{l:List α}{x:α}(h:l[i]?=some x):l.drop i=x::l.drop (i+1):=by
 obtain ⟨m,h2⟩:=B9.1 h;rw [RE m,h2]
theorem Qj(p:Int)(hv:Cr M v cs)(J:cs.length<=1000000):BZ prog 52 #[.agg #[I4 p,v]] [M] (fun r H'=>∃q cap s,r= .agg #[I4 p,.slice q cs.length cap]/\Cr s (.slice q cs.length cap) cs/\H'=[s,M]):=by
 have O:=mL;obtain ⟨U,m,rfl,K,_⟩:=id hv;refine Se func52 ntmps52 [0] ?_;intro u R;refine A0<|Ze (Bx #[I4 p,.slice U cs.length m])<|AD fun X=>Ze (Al Sx #[_,_])<|AD fun W=>A4<|A0<|Zh 1 GS V rfl Lw Y<|Zl ON Y ?_;refine Zc [_] Y call108 Y V (Uf hv J) ?_;rintro _ _ ⟨_,⟨s1,I,rfl⟩,rfl⟩;obtain ⟨G,B,rfl⟩:=I.form;refine Zh 1 GS V rfl Lw Y<|Xe (Zs Lw Y Y V (hi:=by(simp;done))) ?_;refine A4<|A0<|Zo Wh (AA (cs:=#[I4 p,.slice G cs.length B]) HW F2 Y Ax (by exact BM V)) ?_;refine Xe (BK F2 Y Y HJ Wu (by exact Du rfl) E3 AW (by exact BA _)) ?_;refine A4<|AJ<|Cw V results52 Y Wh (Ak HW F2 Wn (BM V)) (by exact ⟨G,B,s1,V,QO I A1,V⟩)
set_option maxHeartbeats 1000000 in
theorem Qk(q:QM)(te base:Int){pg:Option Addr}{cg:Nat}{L:List RP}(hL:G8 M (.slice pg L.length cg) L)(wo:L.length<=1000000)(j5:∀x∈L,x.fits):BZ prog 66 #[.agg #[I4 q.kd,I4 q.tb,I4 q.cl,I4 q.lo,I4 q.hi,I4 q.bq,I4 q.ot,I4 te,I4 base,.slice pg L.length cg]] [M] (fun r H'=>∃pz cz s,r= .agg #[I4 q.kd,I4 q.tb,I4 q.cl,I4 q.lo,I4 q.hi,I4 q.bq,I4 q.ot,I4 te,I4 base,.slice pz L.length cz]/\G8 s (.slice pz L.length cz) L/\H'=[s,M]):=by
 have za:=mL;obtain ⟨Z,hZ,cO⟩:=id hL;have j3:Z.length=L.length:=by rw [<-cO,B2]
 obtain ⟨p9,ve,e9,_,r9⟩:=id hZ;injection e9 with e91 e92 e93
 subst e91 e93;have p8:∀(i:Nat) (z:RPZ),Z[i]?=some z->z.ok M/\z.x.fits:=fun i z hz=>⟨(r9 i z hz).1,j5 _ (by rw [<-cO];exact DO (DE hz))⟩
 refine Se func66 ntmps66 [0] ?_;intro u R;refine A0<|Ze (Bx #[I4 q.kd,I4 q.tb,I4 q.cl,I4 q.lo,I4 q.hi,I4 q.bq,I4 q.ot,I4 te,I4 base,.slice pg L.length cg])<|AD fun be=>Ze (EW ZD (cs:=#[I4 0,I4 0,I4 0,I4 0,I4 0,I4 0,I4 0,I4 0,I4 0,.slice none 0 0]) A6)<|AD fun bo=>A4<|A0<|Zh 9 Fk V rfl My Y<|Zl SD Y ?_;refine Zc [_] Y call118 Y V (LG hZ A1) ?_;rintro _ _ ⟨_,⟨s1,h1,rfl⟩,rfl⟩;obtain ⟨pz,cz,rfl⟩:=h1.form;refine Zh 9 Fk V rfl My Y<|Xe (Zs My Y Y V (hi:=by(simp;done))) ?_;refine A4<|Zq<|Zq<|BV<|Zg<|Zh 9 Fk V rfl My Y<|Zl SD Y ?_;refine Zv (Aa UP Y)<|Zm Y<|A4<|AQ<|Zb [13,1,2,12] ?_;refine BB (e0:=[(13,_)]) (fun m e H=>∃(i:Nat) (W:List RPZ) (sz MM:List A9),m=Z.length -i/\((i<=Z.length/\W.length=i)/\Bb 9 152 (.slice pz Z.length cz) Z.length ((W++Z.drop i).flatMap Ef) sz/\(∀z∈W,z.ok MM)/\W.map RPZ.x=(Z.take i).map RPZ.x)/\e=[(13,I4 (i:Int))]/\H=[sz,MM]) (by exact ⟨0,[],s1,[],V,⟨⟨C0 _,V⟩,h1,fun z hz=>absurd hz B0,V⟩,V,V⟩) Wp ?_;rintro _ _ _ ⟨i,W,sz,MM,rfl,⟨⟨hi,K⟩,G,af,gm⟩,rfl,rfl⟩;refine Zq<|BV<|Zg<|Zv (Av Y Y)<|A4<|Zq<|Au Y (fun qz=>?_) (fun qz=>?_)
 ·
  obtain ⟨z,hz⟩:∃z,Z[i]?=some z:=⟨_,B4 A1⟩;obtain ⟨⟨sw,sj,sJ⟩,y5,pq,q9,qa⟩:=p8 i z hz;rw [mr hz]at G;obtain ⟨g,cur,zz,rfl,rfl,d9,x9,yt,wz⟩:=iR G A1;have y9:i*9+9<=cur.size:=by omega
  have qb:=MN G (bH (B:=Z.drop (i+1)) K 6 AW);have qj:=MN G (bH (B:=Z.drop (i+1)) K 7 AW)
  have qo:=MN G (bH (B:=Z.drop (i+1)) K 8 AW);refine AC<|Zx<|Zq<|AQ<|Zq<|BV<|Zg<|Zm Y<|A3 Y<|A0<|Zh 9 Fk V rfl My Y<|Zl SD Y ?_;refine Zm Y<|BX (Ac UP L7 Y Y A1)<|A3 Y<|Zq<|Az (n:=27) (0::0::0::0::8::24::56::120::0::256::768::1792::4088::0::8192::24576::57344::131064::262137::524281::1048569::2097147::4194299::8388603::16777215::33554431::67108863::[]) 76681344 A6 A6 rfl<|A2 0 rfl (AO Y)<|A2 1 rfl (AO Y)<|A2 2 rfl (AO Y)<|A2 3 rfl (AO Y)<|A2 4 rfl (Aq Y rfl)<|A2 5 rfl (Ap (off:=6) D4 rfl rfl C6 Y)<|B3 6 rfl FA Y (hv:=by exact (by rw [Cl];exact qb)) ?_;refine A2 8 rfl (AO Y)<|A2 9 rfl (Aq Y rfl)<|A2 10 rfl (Ap (off:=8) D4 rfl rfl HH Y)<|B3 11 rfl Kf Y (hv:=by exact (by rw [Cl];exact qo)) ?_;refine A2 13 rfl (AO Y)<|A2 14 rfl (Aq Y rfl)<|A2 15 rfl (Ap (off:=7) D4 rfl rfl Kd Y)<|B3 16 rfl isAgg150 Y (hv:=by exact (by rw [Cl];exact qj)) ?_;refine Zz (l:=[7])<|B1 [true,true,false] [(16,(_,_)),(11,(_,_))] V rfl (Zw [_] Y call109 Y V (Gg sw A1)) ?_ Bz Ai;rintro _ _ ⟨_,⟨sr,l9,rfl⟩,rfl⟩;refine ⟨Zk (Zk (AZ)),?_⟩;obtain ⟨qr,cr,rfl⟩:=l9.form;refine Zz (l:=[12])<|B1 [true,false] [(16,(_,_))] V rfl (Zw [_] Y call123 Y V (Mv sJ q9)) ?_ Bz Ai;rintro _ _ ⟨_,⟨st,o8,rfl⟩,rfl⟩;refine ⟨Zk (AZ),?_⟩;obtain ⟨qt,ct,rfl⟩:=o8.form;refine Zz (l:=[17])<|B1 [false] [] V rfl (Zw [_] Y call124 Y V (Sk sj pq)) ?_ Bz Ai;rintro _ _ ⟨_,⟨sO,sM,ax,bn,rfl⟩,rfl⟩;refine ⟨AZ,?_⟩;obtain ⟨qp,cp,rfl⟩:=bn.form;refine A2 18 V (Aq Y V)<|A2 19 V (Ap (off:=6) D4 V rfl C6 Y)<|Zz (l:=[20])<|B1 [] [] V rfl (Zs C6 Y Y V (hi:=by omega) (hz:=by exact d9)) ?_ (fun _ _ h=>h.elim) Ai;rintro _ _ ⟨rfl,rfl⟩;refine B5<|A2 21 V (Aq Y V)<|A2 22 V (Ap (off:=8) D4 V rfl HH Y)<|Zz (l:=[23])<|B1 [] [] V rfl (Zs HH Y Y V (hi:=by(simp;omega)) (hz:=by(simp only [SM];exact d9))) ?_ (fun _ _ h=>h.elim) Ai;rintro _ _ ⟨rfl,rfl⟩
  refine B5<|A2 24 V (Aq Y V)<|A2 25 V (Ap (off:=7) D4 V rfl Kd Y)<|Zz (l:=[26])<|B1 [] [] V rfl (Zs Kd Y Y V (hi:=by(simp;omega)) (hz:=by(simp only [SM];exact d9))) ?_ (fun _ _ h=>h.elim) Ai;rintro _ _ ⟨rfl,rfl⟩;refine B5<|Ah<|Zn [1,2,4,12,13] ?_;refine Zx<|Zq ?_;have h7:(((cur.setIfInBounds (0+i*9+6) (.slice qr z.x.rows.length cr)).setIfInBounds (0+i*9+8) (.slice qt z.x.roots.length ct)).setIfInBounds (0+i*9+7) (.slice qp z.x.paths.length cp))[0+i*9+7]?=some (.slice qp z.x.paths.length cp):=by
   rw [fh,AM rfl,AM (by simp only [SM];omega)]
  obtain ⟨gB,I⟩:∃c,c=(((cur.setIfInBounds (0+i*9+6) (.slice qr z.x.rows.length cr)).setIfInBounds (0+i*9+8) (.slice qt z.x.roots.length ct)).setIfInBounds (0+i*9+7) (.slice qp z.x.paths.length cp)):=⟨_,rfl⟩;rw [<-I]at h7⊢;refine Zg<|Zm Y<|Zp Y V<|Zv (Ap (off:=7) D4 V rfl Kd Y)<|Zl isAgg150 Y (hv:=by exact h7) ?_;refine Zv (Aa LL Y)<|Zm Y<|A4<|AQ<|BV<|Zb [49,1,2,4,12,13,48] ?_;refine BB (e0:=[(49,_)]) (fun m e H=>∃(k:Nat) (O:List Value) (sp U:List A9),m=z.x.paths.length -k/\((k<=z.x.paths.length/\O.length=z.x.paths.length)/\Bb 1 45 (.slice qp z.x.paths.length cp) z.x.paths.length O sp/\(∀(j:Nat) (v:Value) (l:List Bs),O[j]?=some v->z.x.paths[j]?=some l->if j<k then ET U v l else ET M v l))/\e=[(49,I4 (k:Int))]/\H=[sp,U]) (by exact ⟨0,sM,sO,[],rfl,⟨⟨C0 _,ax.1⟩,bn,fun j v l hv hl=>by rw [AK (eI j)];exact ax.2 j v l hv hl⟩,rfl,rfl⟩) Wp ?_;rintro _ _ _ ⟨k,O,sp,U,rfl,⟨⟨hk,gq⟩,X,gy⟩,rfl,rfl⟩;refine A0<|Zv (Av Y Y)<|A4<|Zq<|Au Y (fun ek=>?_) (fun ek=>?_)
  ·
   obtain ⟨l,hl⟩:∃l,z.x.paths[k]?=some l:=⟨_,B4 ek⟩;have qx:=qa l (DE hl)
   obtain ⟨v0,o9⟩:∃v,O[k]?=some v:=⟨_,B4 A1⟩;obtain ⟨gp,ic,zp,rfl,rfl,kv,vw,vz,vo⟩:=iR X A1;have qw:=MN X o9
   have cu:=gy k v0 l o9 hl;rw [AK (Nat.lt_irrefl k)]at cu;refine AC<|Zx<|Zq<|AQ<|A0<|Zm Y<|A3 Y<|Az (n:=15) (0::1::3::7::0::0::32::96::224::0::992::2016::4064::8191::16383::[]) 20480 A6 A6 V<|A2 0 V (AO Y)<|A2 1 V (Aq Y V)<|A2 2 V (Ap (off:=7) D4 V rfl Kd Y)<|B3 3 V isAgg150 Y (hv:=by exact h7) ?_;refine A2 4 V (AO Y)<|A2 5 V (AO Y)<|A2 6 V (Aq Y V)<|A2 7 V (Ap (off:=7) D4 V rfl Kd Y)<|B3 8 V isAgg150 Y (hv:=by exact h7) ?_;refine A2 9 rfl (AO Y)<|A2 10 rfl (BQ LL HH Y Y (by first|omega|(simp;omega)))<|B3 11 rfl Kf Y (hv:=by exact (by exact qw)) ?_;refine Zz (l:=[12])<|B1 [false,false,true] [(3,(_,_))] V rfl (Zw [_] Y call123 Y V (Mv cu qx)) ?_ Bz Ai;rintro _ _ ⟨_,⟨sl,l8,rfl⟩,rfl⟩;refine ⟨Zk (AZ),?_⟩;obtain ⟨ql,cl,rfl⟩:=l8.form;refine A2 13 rfl (BQ LL HH Y Y (by first|omega|(simp;omega)))<|Yw 14 32767 rfl (Zs HH Y Y rfl (hi:=by omega) (hz:=by exact kv))<|CT<|Ah<|Zn [1,2,4,12,13,48,49] ?_;refine A8<|Zx<|CK (s1:=sl) (s2:=U) Wo Wo ?_;refine Zg<|Ya (n:=1) Y Y<|Zm Y<|Z0<|Zn [49,1,2,4,12,13,48] ?_;refine Ab (e':=[(49,_)]) (by exact ⟨k+1,O.set k (.slice ql l.length cl),[(gp,.cells (ic.setIfInBounds k (.slice ql l.length cl)) 45 zp)],sl++U,rfl,⟨⟨by omega,by rw [cQ];exact gq⟩,OZ X k _,dZ gy gq ek hl (Gc l8 A1)⟩,rfl,rfl⟩)
  obtain rfl:k=z.x.paths.length:=by omega
  refine Ay<|Zt<|Zt<|AR<|A8<|Zx<|CK (s1:=U) (s2:=st) Wo Wo ?_;refine CK (s1:=sp) (s2:=(U++st)) Wo Wo ?_;refine CK (s1:=sr) (s2:=(sp++(U++st))) Wo Wo ?_;refine CK (s1:=(sr++(sp++(U++st)))) (s2:=MM) Wo Wo ?_;have l5:RPZ.ok (sr++(sp++(U++st))) ⟨z.x,qr,cr,qp,cp,qt,ct⟩:=⟨(DU l9 A1).mono (fun c hc=>DP _ hc),(VT X ⟨gq,fun j v l hv hl=>by
   have h9:=gy j v l hv hl;rwa [AM (B9.1 hl).1]at h9⟩ A1).mono (fun c hc=>by rcases BE.1 hc with h9|h9<;>simp [h9]),(Gc o8 A1).mono (fun c hc=>by simp [hc])⟩
  have J:=OZ (OZ (OZ G (i*9+6) (.slice qr z.x.rows.length cr)) (i*9+8) (.slice qt z.x.roots.length ct)) (i*9+7) (.slice qp z.x.paths.length cp);rw [yS K]at J;simp only [Cl]at I;rw [<-I]at J;refine Zg<|Ya (n:=1) Y Y<|Zm Y<|Z0<|Zn [13,1,2,12] ?_;refine Ab (e':=[(13,_)]) (by
   exact ⟨i+1,W++[⟨z.x,qr,cr,qp,cp,qt,ct⟩],[(g,.cells gB 152 zz)],sr++(sp++(U++st))++MM,rfl,⟨⟨by omega,by rw [B7,K];rfl⟩,J,fun y hy=>by
    rcases BE.1 hy with hy|hy
    · exact (af y hy).mono (fun c hc=>Fm _ hc)
    · rw [BT.1 hy];exact l5.mono (fun c hc=>DP _ hc),by rw [Bm,gm,Bn hz,Bm];rfl⟩,rfl,rfl⟩)
 obtain rfl:i=Z.length:=by omega
 refine Ay<|Zt<|Zt<|AR<|Zx<|Zq ?_;rw [show W++Z.drop Z.length=W by rw [gS,DB]]at G;rw [G0]at gm;refine CK (s1:=sz) (s2:=MM) Wo Wo ?_;refine Zg<|Zo Wh (AA (cs:=#[I4 q.kd,I4 q.tb,I4 q.cl,I4 q.lo,I4 q.hi,I4 q.bq,I4 q.ot,I4 te,I4 base,.slice pz Z.length cz]) SJ Gk Y Ax (by exact BM V)) ?_;refine Xe (BK Gk Y Y HJ Wu (by exact Du rfl) E3 AW (by exact BA _)) ?_;refine A4<|AJ<|Cw rfl results66 Y Wh (Ak SJ Gk Wn (BM rfl)) (by exact ⟨pz,cz,sz++MM,by rw [j3],⟨W,WO (by rw [K,<-j3];exact G) A1 af,by rw [gm];exact cO⟩,rfl⟩)
structure Ee(qs:List (Int×QM))(es:Array MapEntry)(ck:Nat)(lm:List (Int×Value)):Prop where
 map:Ck (fun n:Int=>Value.int .i64 n) es ck lm
 mem:∀p,p∈lm↔∃x∈qs,p=(x.1,(.agg #[I4 x.2.kd,I4 x.2.tb,I4 x.2.cl,I4 x.2.lo,I4 x.2.hi,I4 x.2.bq,I4 x.2.ot]:Value))
 ids:(qs.map (·.1)).Nodup
theorem OB{β:Type}(p:β×Value)(k:β)(v v0:Value){A:Prop}:(p=(k,v)\/((p=(k,v0)\/(A/\p.1≠k))/\p.1≠k))↔(p=(k,v)\/(A/\p.1≠k)):=by
 constructor
 · rintro (h|⟨h|⟨h,_⟩,hn⟩)
   · exact .inl h
   · exact absurd (by rw [h]) hn
   · exact .inr ⟨h,hn⟩
 · rintro (h|⟨h,hn⟩)
   · exact .inl h
   · exact .inr ⟨.inr ⟨h,hn⟩,hn⟩
theorem mD:Ee [] #[] 0 []:=⟨EQ _,fun p=>by simp,ki⟩
theorem Ee.none{qs:List (Int×QM)}{es:Array MapEntry}{ck:Nat}{lm:List (Int×Value)}(h:Ee qs es ck lm){id:Int}(m:∀x∈qs,x.1≠id):EG id lm=none:=DW fun p B=>by
 obtain ⟨x,G,rfl⟩:=(h.mem p).1 B;exact m x G
variable{qs:List (Int×QM)}{es:Array MapEntry}{ck:Nat}{lm:List (Int×Value)}
theorem Ee.get(h:Ee qs es ck lm){x:Int×QM}(m:x∈qs):EG x.1 lm=some (.agg #[I4 x.2.kd,I4 x.2.tb,I4 x.2.cl,I4 x.2.lo,I4 x.2.hi,I4 x.2.bq,I4 x.2.ot]:Value):=D5 h.map.keys ((h.mem _).2 ⟨x,m,rfl⟩)
theorem Ee.len(h:Ee qs es ck lm):lm.length=qs.length:=by
 have G:(lm.map (·.1)).Perm (qs.map (·.1)):=(OR h.map.keys h.ids).2 fun a=>by
  constructor
  · intro m
    obtain ⟨p,I,rfl⟩:=Bk.1 m;obtain ⟨x,B,rfl⟩:=(h.mem p).1 I;exact DO B
  · intro m
    obtain ⟨x,B,rfl⟩:=Bk.1 m;exact Bk.2 ⟨_,(h.mem _).2 ⟨x,B,V⟩,V⟩
 have:=G.length_eq;simpa using this
theorem mF(h:Ee qs es ck lm){id:Int}{q:QM}(J:∀x∈qs,x.1≠id){I:Array MapEntry}{G:Nat}{B:List (Int×Value)}(U:Ck (fun n:Int=>Value.int .i64 n) I G B)
 (W:∀p,p∈B↔p=(id,(.agg q.A30:Value))\/(p∈lm/\p.1≠id)):Ee (qs++[(id,q)]) I G B:=by
 refine ⟨U,fun p=>?_,?_⟩
 · rw [W,h.mem]
   constructor
   · rintro (rfl|⟨⟨x,m,rfl⟩,_⟩)
     · exact ⟨(id,q),by simp,rfl⟩
     · exact ⟨x,DP _ m,rfl⟩
   · rintro ⟨x,m,rfl⟩
     rcases BE.1 m with m|m
     · exact .inr ⟨⟨x,m,rfl⟩,J x m⟩
     · rw [BT.1 m];exact .inl rfl
 · rw [Bm,Ge]
   refine ⟨h.ids,by simp,fun a K b O=>?_⟩;obtain ⟨x,m,rfl⟩:=Bk.1 K;obtain rfl:=BT.1 O;exact J x m
theorem mE(h:Ee qs es ck lm)(id:Int){G:Array MapEntry}{B:Nat}{m:List (Int×Value)}(K:Ck (fun n:Int=>Value.int .i64 n) G B m)(U:∀p,p∈m↔p∈lm/\p.1≠id):Ee (qs.filter fun x=>x.1≠id) G B m:=by
 refine ⟨K,fun p=>?_,(h.ids.sublist ((SU).map _))⟩;rw [U,h.mem];constructor
 · rintro ⟨⟨x,I,rfl⟩,O⟩
   exact ⟨x,Ek.2 ⟨I,by simpa using O⟩,V⟩
 · rintro ⟨x,I,rfl⟩
   obtain ⟨J,h2⟩:=Ek.1 I;exact ⟨⟨x,J,V⟩,by simpa using h2⟩
theorem jV:BZ prog 43 #[] [] (fun r H'=>∃m mq,r=I5 m/\H'=[[(m,.cells #[.map (some mq),.pointer none] 186 (0,0))],[(mq,.map #[] 0)]]):=by
 refine Se func43 ntmps43 [] ?_;intro u R;refine A0<|A3 Y<|A0<|Ze (DT)<|AD fun mq=>Zv (BL (vs:=[(0,_)]) (cs:=#[_,_]) Y (AY (pl:=#[(0,1),(1,1)]) zeroValue186 Q1 (fun _=>by kernel_rfl) V))<|Ze (Bx #[_,_])<|AD fun m=>A3 Y<|AJ<|AP V results43 Y (by exact ⟨m,mq,V,V⟩)
variable{lv:Value}
theorem WQ{J mq:Nat}(m:Ee qs es ck lm){x:Int×QM}(hx:x∈qs):BZ prog 98 #[I5 J,I4 x.1] [[(J,.cells #[.map (some mq),lv] 186 (0,0))],[(mq,.map es ck)]] (fun r H'=>∃G B X,r= .bool true/\Ee (qs.filter fun y=>y.1≠x.1) G B X/\H'=[[(J,.cells #[.map (some mq),.pointer none] 186 (0,0))],[(mq,.map G B)]]):=by
 have hg:=m.get hx;refine Se func98 ntmps98 [0,1] ?_;intro u R;refine A0<|A3 Y<|Zq<|A0<|Zm Y<|Zv (Be underlying116 Y Y)<|A4<|AX Y (fun I=>by cases I)<|fun I=>AC<|Zx<|A0<|Zm Y<|Zp Y V<|Zh 0 Q1 V rfl dd Y<|Zl dj Y ?_;refine Zm Y<|Zo Wh (E9 (Ca Cp (D:=fun _=>True)) cV Mu m.map (fun _ _=>trivial) (trivial) (⟨by rw [hg];first|done|rfl,by rw [hg];first|done|rfl⟩) Y Y) ?_;refine Zm Y<|Zd Y V<|Zd Y V<|Ze (Al Mu #[_,_,_,_,_,_,_])<|AD fun b1=>Xe (Xw CC _) ?_;refine AG Y<|Zn [0,1,6] ?_;refine Zx<|A0<|Zm Y<|Zp Y V<|Zh 0 Q1 V rfl dd Y<|Zl dj Y ?_;refine Zm Y<|Ze (LK (Ca Cp (D:=fun _=>True)) cV m.map (fun _ _=>trivial) (trivial) Y Y Wo) ?_;rintro _ _ ⟨rfl,O,K,Z,U,W,rfl⟩;refine A4<|A0<|Zm Y<|Zp Y V<|Zh 1 Q1 V rfl ZS Y<|Xe (Zs ZS Y Y V) ?_;refine A4<|A0<|Zm Y<|A3 Y<|AJ<|AP V results98 Y (by exact ⟨O,K,Z,V,mE m _ U W,V⟩)
theorem jW{K mq:Nat}(m:Ee qs es ck lm){id:Int}(J:∀x∈qs,x.1≠id){q:QM}(hq:BJ q)(hl:qs.length<500):BZ prog 99 #[I5 K,I4 id,(.agg q.A30:Value)] [[(K,.cells #[.map (some mq),lv] 186 (0,0))],[(mq,.map es ck)]] (fun r H'=>∃G B cO,r=I4 0/\Ee (qs++[(id,q)]) G B cO/\H'=[[(K,.cells #[.map (some mq),.pointer none] 186 (0,0))],[(mq,.map G B)]]):=by
 have X:=m.none J;have gq:=m.len
 refine Se func99 ntmps99 [0,1,2] ?_;intro u R;refine A0<|Ze (Bx #[_,_,_,_,_,_,_])<|AD fun b1=>A3 Y<|Zq<|A0<|Zm Y<|Zv (Be underlying116 Y Y)<|A4<|AX Y (fun I=>by cases I)<|fun I=>AC<|Zx<|Zq<|A0<|Zm Y<|Zp Y V<|Zh 0 Q1 V rfl dd Y<|Zl dj Y ?_;refine Zm Y<|Zo Wh (E9 (Ca Cp (D:=fun _=>True)) cV Mu m.map (fun _ _=>trivial) (trivial) (⟨by rw [X];first|done|rfl,by rw [X];first|done|rfl⟩) Y Y) ?_;refine Zm Y<|Zd Y V<|Zd Y V<|Ze (Al Mu #[_,_,_,_,_,_,_])<|AD fun b2=>Xe (Xw CC _) ?_;refine AG Y<|Zn [0,1,5,8] ?_;refine Zx<|A0<|Zm Y<|Zm Y<|Ag (t:=21) Y V (fun g1=>by cases g1)<|fun g1=>Dv Y Wh (Pa #[_,_,_,_,_,_,_] E4 CC Y) V rfl ?_;refine Xr [_] Y call34 Y V (JY q) ?_;rw [CM hq];refine Yg (Bo Y)<|Zv (AL Y Y)<|Zm Y<|Ag (t:=26) Y V (fun g2=>by cases g2)<|fun g2=>Zf Y Y<|Yg (Aq Y V)<|Yf 0 Q1 V rfl dd Y<|Yl dj Y ?_;refine Dv Y Wh (QB cV m.map Y) V rfl ?_;refine Yg (Fw (n:=500) Y Y)<|Zv (AL Y Y)<|Z0<|Zn [0,1,5,33] ?_;refine Zx<|Au Y (fun h8=>by omega)<|fun h8=>AC<|Zx<|Zq<|Az (n:=13) (0::1::3::7::0::0::0::31::159::479::1023::2047::4095::[]) 4736 A6 A6 V<|A2 0 V (AO Y)<|A2 1 V (Aq Y V)<|A2 2 V (AB (off:=0) Q1 V rfl dd Y)<|B3 3 V dj Y ?_;refine A2 4 V (AO Y)<|A2 5 V (AO Y)<|E6 6 V Wh (Pa #[_,_,_,_,_,_,_] E4 CC Y) ?_;refine Yz 7 31 255 [6,3] [true,false] [(6,(_,_))] rfl Y rfl rfl rfl rfl (KU (Ca Cp (D:=fun _=>True)) cV Mu m.map (fun _ _=>trivial) (trivial) (by rw [X];first|done|rfl) Y Y Wo) ?_;rintro _ _ ⟨gm,ek,gy,j3,gB,rfl,af,Z,W,bn,rfl⟩;refine B5<|A2 8 V (C8 Y V)<|Zz (l:=[9])<|B1 [false] [] V rfl (Ip af Z W Y Y Y Wo) ?_ (fun _ _ h=>h.elim) Ai;rintro _ _ ⟨rfl,U,O,d9,ax,cu,rfl⟩;refine B5<|A2 10 V (Aq Y V)<|A2 11 V (AB (off:=1) Q1 V rfl ZS Y)<|Zz (l:=[12])<|B1 [] [] V rfl (Zs ZS Y Y V) ?_ (fun _ _ h=>h.elim) Ai;rintro _ _ ⟨rfl,rfl⟩;refine B5<|Ah<|Zn [] ?_;refine Zx<|A0<|A3 Y<|AJ<|AP rfl results99 Y (by exact ⟨U,O,d9,rfl,mF m J ax (fun p=>by rw [cu,bn];exact OB _ _ _ _),rfl⟩)
structure IvM where
 lo:Int
 hi:Int
 rc:Int
 id:Int
deriving Inhabited
def UF(M:List A9)(v:Value)(l:List IvM):Prop:=∃p cap,v= .slice p l.length cap/\(l.length<=maxLen/\l.length<=cap)/\∀(i:Nat) (x:IvM),l[i]?=some x->∃g off cur T zz,p=some ⟨g,off,none⟩/\(g,Obj.cells cur T zz)∈M/\off+i*4+4<=cur.size/\cur.extract (off+i*4) (off+i*4+4)=#[I4 x.lo,I4 x.hi,I4 x.rc,I4 x.id]
variable{l:List IvM}
theorem UF.mono{m:List A9}(h:UF M v l)(K:∀c∈M,c∈m):UF m v l:=by
 obtain ⟨p,cap,e,J,I⟩:=h;refine ⟨p,cap,e,J,fun i x O=>?_⟩;obtain ⟨g,off,cur,T,zz,B,h2,G⟩:=I i x O;exact ⟨g,off,cur,T,zz,B,K _ h2,G⟩
theorem UF.take(h:UF M (.slice p l.length cap) l){k:Nat}(I:k<=l.length):UF M (.slice p k cap) (l.take k):=by
 obtain ⟨K,B,e,J,G⟩:=h;injection e with e1 e2 e3
 subst e1 e3;refine ⟨p,cap,by rw [C1,N3 I],by rw [C1];omega,fun i x m=>G i x ?_⟩;rw [HA]at m;split at m
 · exact m
 · cases m
def gJ(a b:Int):Int:=if a<b then-1 else if b<a then 1 else 0
theorem aZ(a b:Int):gJ a b<0↔a<b:=by
 unfold gJ;split
 · exact ⟨fun _=>by assumption,fun _=>by decide⟩
 · split
   · exact ⟨fun h=>absurd h AW,fun h=>by omega⟩
   · exact ⟨fun h=>absurd h AW,fun h=>by omega⟩
theorem OD{α:Type}(p:α->Bool):∀{l:List α} {e:Nat},e<=l.length->(∀(k:Nat) (x:α),k<e->l[k]?=some x->p x=true)->(∀(k:Nat) (x:α),e<=k->l[k]?=some x->p x=false)->l.takeWhile p=l.take e
 |[],e,_,_,_=>by simp
 |x::l,0,_,_,h2=>by rw [P2,AK (by rw [h2 0 x (CD _) rfl];decide),Hx]
 |x::l,e+1,he,h1,h2=>by
  rw [P2,AM (h1 0 x A1 rfl),ju,OD p (by simpa using he) (fun k y B m=>h1 (k+1) y A1 m) (fun k y B m=>h2 (k+1) y A1 m)]
def Il(v:Int)(l:List IvM):List Int:=(((l.takeWhile fun x=>decide (x.lo<=v)).reverse.takeWhile fun x=>decide (v<=x.rc)).filter fun x=>decide (v<=x.hi)).map (·.id)
def N8(v:Int)(l:List (Nat×IvM)):List Int:=((l.map (·.2)).filter fun x=>decide (v<=x.hi)).map (·.id)
theorem Sj(v:Int)(l:List (Nat×IvM))(x:Nat×IvM):N8 v (l++[x])=N8 v l++(if v<=x.2.hi then [x.2.id]else []):=by
 unfold N8;rw [Bm,Hh,Bm];congr 1;by_cases h:v<=x.2.hi
 · rw [AM h];simp [h]
 · rw [AK h];simp [h]
theorem Mt{α:Type}(p:α->Bool):∀{l:List α},(∀x∈l,p x=true)->l.takeWhile p=l
 |[],_=>rfl
 |x::l,h=>by rw [P2,AM (h x (Dd ..)),Mt p fun y m=>h y (EV _ m)]
theorem LQ{α:Type}(p:α->Bool){x:α}(B:p x=false)(m:List α):∀{l:List α},(∀y∈l,p y=true)->(l++x::m).takeWhile p=l
 |[],_=>by rw [Ks,P2,AK (by rw [B];decide)]
 |y::l,h=>by rw [PJ,P2,AM (h y (Dd ..)),LQ p B m fun z hz=>h z (EV _ hz)]
variable{e:Nat}
theorem uG{v:Int}(B:l.takeWhile (fun x=>decide (x.lo<=v))=l.take e)(h:∀y∈bwd (l.take e),v<=y.2.rc):N8 v (bwd (l.take e))=Il v l:=by
 unfold N8 Il;rw [B,Mi,Mt];intro x m;rw [<-Mi]at m;obtain ⟨y,G,rfl⟩:=Bk.1 m;exact CM (h y G)
theorem nE{v:Int}(G:l.takeWhile (fun x=>decide (x.lo<=v))=l.take e){pre m:List (Nat×IvM)}{x:Nat×IvM}(B:bwd (l.take e)=pre++x::m)(h:∀y∈pre,v<=y.2.rc)(I:x.2.rc<v):N8 v pre=Il v l:=by
 unfold N8 Il;rw [G,<-Mi,B,Bm,DQ,LQ _ (by simpa using I)];intro z hz;obtain ⟨y,J,rfl⟩:=Bk.1 hz;exact CM (h y J)
theorem gI{v:Int}(U:l.takeWhile (fun x=>decide (x.lo<=v))=l.take e){pre m:List (Nat×IvM)}{x:Nat×IvM}(O:bwd (l.take e)=pre++x::m)(h:∀y∈pre++[x],v<=y.2.rc)(W:v<=x.2.hi):∃G,Il v l=N8 v pre++x.2.id::G:=by
 unfold N8 Il;have K:∀{A:List IvM} {B:List IvM},(∀y∈A,decide (v<=y.rc)=true)->∃C,(A++B).takeWhile (fun x=>decide (v<=x.rc))=A++C:=fun{A B} hA=>by
  induction A with
  |nil=>exact ⟨_,rfl⟩
  |cons a A ih=>
   obtain ⟨C,I⟩:=ih fun y J=>hA y (EV _ J);exact ⟨C,by rw [PJ,P2,AM (hA a (Dd ..)),I,PJ]⟩
 rw [U,<-Mi,O,show pre++x::m=(pre++[x])++m by simp,Bm];obtain ⟨C,I⟩:=K (A:=(pre++[x]).map Prod.snd) (B:=m.map Prod.snd) fun z hz=>by
  obtain ⟨y,J,rfl⟩:=Bk.1 hz;exact CM (h y J)
 rw [I,Bm,Hh,Hh,Bm,Bm];refine ⟨(C.filter fun x=>decide (v<=x.hi)).map (·.id),?_⟩;simp [W]
theorem TT(x:Int):BI prog 281 #[I4 x] [] (.bool false):=by
 refine Se func281 ntmps281 [0] ?_;intro u R;refine A0<|A3 Y<|A0<|Zm Y<|Zm Y<|Zv (J9 Y Y)<|A3 Y<|AJ<|AP V results281 Y (by exact ⟨by simp,V⟩)
theorem Xc(a b:Int):BI prog 238 #[I4 a,I4 b] [] (I4 (gJ a b)):=by
 refine Se func238 ntmps238 [0,1] ?_;intro u R;refine A0<|A3 Y<|A0<|Zm Y<|Xr [_] Y call281 Y V (TT _) ?_;refine A3 Y<|A0<|Zm Y<|Xr [_] Y call281 Y V (TT _) ?_;refine A3 Y<|Zq<|A0<|Zm Y<|A4<|AX Y (fun m=>by cases m)<|fun m=>AC<|Zx<|Zq<|A0<|Zm Y<|A4<|AX Y (fun h2=>by cases h2)<|fun h2=>AC<|Zx<|Zq<|A0<|Zm Y<|Zm Y<|Zv (Dt Y Y)<|A4<|Au Y (fun B=>?_) (fun B=>?_)
 ·
  refine A0<|AG Y<|Zn [4] ?_;refine Zx<|AJ<|Zt<|AP V results238 Y (by exact ⟨by unfold gJ;simp [*],V⟩)
 refine AC<|Zx<|Zq<|A0<|Zm Y<|Zm Y<|Zv (Er Y Y)<|Z0<|Zn [19] ?_;refine Zx<|Au Y (fun G=>?_) (fun G=>?_)
 ·
  refine A0<|A3 Y<|AJ<|Zt<|AP V results238 Y (by exact ⟨by unfold gJ;simp [*],V⟩)
 refine AC<|Zx<|A0<|A3 Y<|AJ<|AP V results238 Y (by exact ⟨by unfold gJ;simp [*],V⟩)
theorem Z6(x:IvM)(t:Int):BI prog 245 #[.agg #[I4 x.lo,I4 x.hi,I4 x.rc,I4 x.id],I4 t] [] (I4 (gJ x.lo t)):=by
 refine Se func245 ntmps245 [0,1] ?_;intro u R;refine A0<|Ze (Bx #[_,_,_,_])<|AD fun m=>A3 Y<|A0<|Zh 0 W8 V rfl A5 Y<|Zl AE Y ?_;refine Zm Y<|Xr [_,_] Y call238 Y V (Xc _ _) ?_;refine A3 Y<|AJ<|AP V results245 Y (by exact ⟨V,V⟩)
theorem Xh(hv:UF M v l)(hn:l.length<=1000000)(hs:l.Pairwise fun a b=>a.lo<=b.lo)(t:Int):BZ prog 244 #[v,I4 t,.func (.func 245) #[] #[]] [M] (fun r H'=>∃(e:Nat) (b:Bool),r= .tuple #[I4 (e:Int),.bool b]/\e<=l.length/\(∀(k:Nat) (x:IvM),k<e->l[k]?=some x->x.lo<t)/\(∀(k:Nat) (x:IvM),e<=k->l[k]?=some x->t<=x.lo)/\H'=[M]):=by
 have cO:=mL;obtain ⟨p,cap,rfl,⟨hl,cu⟩,hg⟩:=id hv;have J:∀(i j:Nat) (x y:IvM),i<=j->l[i]?=some x->l[j]?=some y->x.lo<=y.lo:=fun i j x y af G I=>by
  rcases Dg i j with h|h
  · obtain ⟨h1,rfl⟩:=B9.1 G
    obtain ⟨h2,rfl⟩:=B9.1 I;exact du.1 hs i j h1 h2 h
  · obtain rfl:i=j:=by omega
    rw [G]at I;injection I with I;rw [I];exact Z1 _
 refine Se func244 ntmps244 [0,1,2] ?_;intro u R;refine A0<|Za Y<|A3 Y<|A0<|Zm Y<|Zv (Aa eV Y)<|A3 Y<|A0<|Zm Y<|Za Y<|A3 Y<|Zq<|AQ<|Zb [9,10,0,1,2,8] ?_;refine BB (e0:=[(9,_),(10,_)]) (fun m e H=>∃(i j:Nat),m=j -i/\((i<=j/\j<=l.length)/\(∀(k:Nat) (x:IvM),k<i->l[k]?=some x->x.lo<t)/\(∀(k:Nat) (x:IvM),j<=k->l[k]?=some x->t<=x.lo))/\e=[(9,I4 (i:Int)),(10,I4 (j:Int))]/\H=[]) (by exact ⟨0,l.length,rfl,⟨⟨C0 _,CD _⟩,fun k x h=>absurd h (eI k),fun k x h G=>by rw [LS h]at G;cases G⟩,rfl,rfl⟩) Wp ?_;rintro _ _ _ ⟨i,j,rfl,⟨⟨af,W⟩,O,K⟩,rfl,rfl⟩;refine Zq<|A0<|Zm Y<|Zm Y<|Zv (Av Y Y)<|A4<|Au Y (fun ax=>?_) (fun ax=>?_)
 ·
  refine AC<|Zx<|AQ<|A0<|Zm Y<|Zm Y<|Ya Y Y ?_;refine BX (Lh Cp W4 Y A1)<|BX (Q6 (n:=1) Y Y (by first|decide|(simp [IntKind.bits];done)|(simp [IntKind.bits];omega)))<|BX (TB W4 Cp Y A1)<|A3 Y<|Zq ?_;obtain ⟨h,hh⟩:∃h,h=(i+j)/2^1:=⟨_,rfl⟩;rw [<-hh];have bn:i<=h/\h<j:=by rw [hh];omega
  obtain ⟨x,G⟩:∃x,l[h]?=some x:=⟨_,B4 A1⟩;obtain ⟨g,off,cur,T,zz,rfl,U,X,B⟩:=hg _ _ G;refine Zg<|Zm Y<|Zm Y<|Zm Y<|BX (Ac eV Nd Y Y A1)<|CQ (Gs Wo (U)) (AA (cs:=#[I4 x.lo,I4 x.hi,I4 x.rc,I4 x.id]) isAgg282 Nd Y A1 (by exact B)) V rfl ?_;refine Zm Y<|Xr [_,_] Y call245 Y V (Z6 x t) ?_;refine Zv (Dt Y Y)<|Z0<|Zn [0,1,2,8,9,10,11,31] ?_;refine Zx<|Au Y (fun Z=>?_) (fun Z=>?_)
  ·
   refine Zg<|Zm Y<|Ya (n:=1) Y Y<|AG Y<|A8<|Zn [9,10,0,1,2,8] ?_;refine Ab (e':=[(9,_),(10,_)]) (by exact ⟨h+1,j,V,⟨⟨by omega,by omega⟩,fun k y hk I=>by have:=J k h y x A1 I G;have:=(aZ _ _).1 Z;omega,K⟩,V,V⟩)
  refine Zg<|Zm Y<|AG Y<|A8<|Zn [9,10,0,1,2,8] ?_;refine Ab (e':=[(9,_),(10,_)]) (by exact ⟨i,h,V,⟨⟨by omega,by omega⟩,O,fun k y hk I=>by have:=J h k x y hk G I;have:=mt (aZ x.lo t).2 Z;omega⟩,V,V⟩)
 obtain rfl:i=j:=by omega
 refine Ay<|Zt<|Zt<|AR<|Zx<|A0<|Zm Y<|Zm Y<|Zm Y<|Zv (Av Y Y)<|Zm Y<|Am (t:=39) Y V (fun h5=>?_) (fun h5=>?_)
 ·
  obtain ⟨x,G⟩:∃x,l[i]?=some x:=⟨_,B4 A1⟩;obtain ⟨g,off,cur,T,zz,rfl,U,X,B⟩:=hg _ _ G;refine Zf Y Y<|Zf Y Y<|Zf Y Y ?_
  (refine Gr Y (Ac eV Nd Y Y ?_) rfl rfl ?_;(focus (omega)))
  refine Lj Y (Gs Wo (U)) (AA (cs:=#[I4 x.lo,I4 x.hi,I4 x.rc,I4 x.id]) isAgg282 Nd Y A1 (by exact B)) V rfl ?_;refine Zf Y Y<|Xr [_,_] Y call245 Y V (Z6 x t) ?_;refine Yg (CP Y Y)<|Zv (AV Y Y)<|Za Y<|AG Y<|Zn [6,7] ?_;refine Zx<|AJ<|Cy V results244 Y Y (by exact ⟨i,_,V,W,O,K,V⟩)
 repeat refine A7 Y rfl ?_
 refine Zv (AL Y Y)<|Za Y<|AG Y<|Zn [6,7] ?_;refine Zx<|AJ<|Cy V results244 Y Y (by exact ⟨i,_,V,W,O,K,V⟩)
theorem av(p:Option Addr)(n c:Nat):BZ prog 246 #[.slice p n c] [] (fun r H'=>∃b,r= .func (.func 283) #[] #[I5 b]/\H'=[[(b,.cells #[.slice p n c] 283 (0,0))]]):=by
 refine Se func246 ntmps246 [0] ?_;intro u R;refine A0<|Ze (Bx #[_])<|AD fun b=>A3 Y<|A0<|Zv (Bg (vs:=[]) (us:=[_]) Y Y)<|A3 Y<|AJ<|AP V results246 Y (by exact ⟨_,V,V⟩)
theorem ay{ls:List IvM}(hv:UF M v ls)(b:Nat)(hn:ls.length<=1000000):Ml prog 283 #[I5 b] [[(b,.cells #[v] 283 (0,0))]] (fun s=>∀c∈M,c∈s) (fun x:Nat×IvM=>#[I4 ((x.1:Nat):Int),.agg #[I4 x.2.lo,I4 x.2.hi,I4 x.2.rc,I4 x.2.id]]) (bwd ls):=by
 have cu:=mL;obtain ⟨p,cap,rfl,hl,hg⟩:=hv;intro l J Jx hA hy s G;refine Se func283 ntmps283 [0,1] ?_;intro u R;refine A0<|Zl isAgg283 Y ?_;refine Zv (Aa eV Y) ?_
 (refine BX (GG Y Y (IntWalk.i64_in _ ?_)) ?_;(focus (omega)))
 refine A3 Y<|AQ<|Zb [3,0,1] ?_;refine BB (e0:=[(3,_)]) (fun m e H=>∃(k:Nat) (s:List A9),m=0+k/\(k<=ls.length/\J ((bwd ls).take (ls.length -k)) s)/\e=[(3,I4 ((k:Int) -1))]/\H=[[(b,.cells #[.slice p ls.length cap] 283 (0,0))],s]) (by exact ⟨ls.length,s,rfl,⟨CD _,by rw [Tl,Hx];exact G⟩,rfl,rfl⟩) Wp ?_;rintro _ _ _ ⟨k,s,rfl,⟨hk,G⟩,rfl,rfl⟩;refine Zq<|A0<|Zm Y<|Zv (H9 Y Y)<|A4<|Au Y (fun Z=>?_) (fun Z=>?_)
 ·
  obtain ⟨m,rfl⟩:∃m,k=m+1:=⟨k -1,by omega⟩;rw [show(((m+1:Nat):Int) -1)=((m:Nat):Int) by omega];obtain ⟨B,U⟩:∃B,ls[m]?=some B:=⟨_,B4 A1⟩;have K:=gT U
  obtain ⟨g,o,cur,T,zz,rfl,hm,bn,O⟩:=hg m B U;have af:=hy _ _ _ s (OH K) G
  refine AC<|Zx<|Zq<|AQ<|A0<|Zm Y<|Zm Y<|Zl isAgg283 Y ?_;refine Zm Y<|BX (Ac eV Nd Y Y A1)<|CQ (Gs Wo (hA _ s G _ hm)) (AA (cs:=#[I4 B.lo,I4 B.hi,I4 B.rc,I4 B.id]) isAgg282 Nd Y A1 (by exact O)) V rfl ?_;refine Ze (GR (vs:=[_,_]) Y Y (af) Wp) ?_;rintro _ _ ⟨_,⟨s',rfl,ax⟩,rfl⟩;rcases ax with⟨rfl,W⟩|⟨rfl,hJx⟩
  ·
   refine Zv (Bo Y)<|A4<|AX Y (fun I=>by cases I)<|fun I=>AC<|A8<|Zx<|Zg<|Zm Y ?_
   (refine BX (GG Y Y (IntWalk.i64_in _ ?_)) ?_;(focus (omega)))
   refine AG Y<|Zn [3,0,1] ?_;refine Ab (e':=[(3,_)]) (by exact ⟨m,s',rfl,⟨by omega,by rw [show ls.length -m=ls.length -(m+1)+1 by omega,Bn K];exact W⟩,rfl,rfl⟩)
  refine Zv (Bo Y)<|A4<|AX Y (fun I=>?_) (fun I=>?_)
  ·
   refine AJ<|Ae<|Zt<|Zt<|Ae ?_;refine Cz V results283 (by exact ⟨s',V,.inr ⟨_,hJx⟩⟩)
  cases I
 have X:k=0:=by omega
 subst X;rw [Sh,Hv (by rw [Xg];exact CD _)]at G;refine Ay<|Zt<|Zt<|AR<|Cz V results283 (by exact ⟨s,V,.inl G⟩)
theorem Xb(hv:UF M lv l)(hn:l.length<=1000000)(hs:l.Pairwise fun a b=>a.lo<=b.lo)(v:Int)(j3:-1000000000000<=v/\v<=1000000000000)(bl Z:Nat):F7 prog 243 #[I5 bl,I5 Z] [[(bl,.cells #[lv] 283 (0,0))],[(Z,.cells #[I4 v] 3 (0,0))]] (fun s=>∀c∈M,c∈s) (fun i:Int=>#[I4 i]) (Il v l):=by
 have ic:=mL;obtain ⟨p,cap,rfl,⟨hl,gB⟩,hg⟩:=id hv;intro ly J hA X s G;refine DL func243 V ntmps243 V ?_;intro u R;refine Zb [0,1,2] ?_;refine A0<|Ze (Bx #[_])<|AD fun by_=>A4<|A0<|Zl isAgg283 Y ?_;refine Zl AE Y ?_;refine Yi Y Y<|Zc [_,_,_] Y call244 Y V (Xh (hv.mono (hA _ s G)) hn hs (v+1)) ?_;rintro _ _ ⟨_,⟨e,fb,rfl,U,bn,cu,rfl⟩,rfl⟩;have O:l.takeWhile (fun x=>decide (x.lo<=v))=l.take e:=OD _ U (fun k x hk hx=>CM (by have:=bn k x hk hx;omega)) (fun k x hk hx=>C4 (by have:=cu k x hk hx;omega))
 refine Zm Y<|Zd Y V<|Zd Y V<|Za Y<|A3 Y<|A0<|Zl isAgg283 Y ?_;refine Zm Y<|BX (Bt eV Nd Y Y A1)<|Zc [_] Y call246 Y V (av _ _ _) ?_;rintro _ _ ⟨_,⟨bb,rfl,rfl⟩,rfl⟩;refine Z0<|Zn [2,3,18] ?_;refine Zx<|AQ<|Zb [2,3,18] ?_;refine Xk (Ix:=(fun(_:List (Nat×IvM)) H=>∃s,J (Il v l) s/\H=[[(Z,.cells #[I4 v] 3 (0,0))],[(by_,.cells #[.func (.yield ly) #[] #[]] 112 (0,0))],s])) (H0:=_) (R:=_) (I:=(fun(pre:List (Nat×IvM)) H=>∃s,(J (N8 v pre) s/\∀y∈pre,v<=y.2.rc)/\H=[[(Z,.cells #[I4 v] 3 (0,0))],[(by_,.cells #[.func (.yield ly) #[] #[]] 112 (0,0))],s])) (E:=fun x e Hn=>∃bx,e=[(7,I5 bx),(20,.agg #[I4 x.2.lo,I4 x.2.hi,I4 x.2.rc,I4 x.2.id]),(19,I4 ((x.1:Nat):Int))]/\Hn=[[(bx,.cells #[I4 x.2.lo,I4 x.2.hi,I4 x.2.rc,I4 x.2.id] 282 (0,0))]]) rfl Y call283 (ay (hv.take U) bb (by rw [C1];omega)) (by rintro pre _ c d ⟨s,h1,rfl⟩;intro q hq;have:=hA _ s h1.1 q hq;simp [this]) Y rfl Wp (⟨s,⟨G,fun y X=>by simp at X⟩,rfl⟩) ?ha_2 ?hbd_2 ?hk_2 ?hkx_2
 case ha_2=>
  intro _ x _ _;refine Zg<|Ze (Al zeroValue282 #[_,_,_,_])<|AD fun b2=>Xe (Xw Nd _) ?_;refine Z0<|Ll (e:=[(7,_),(20,_),(19,_)]) (Hn:=[[(_,_)]]) ?_;exact ⟨_,V,V⟩
 case hbd_2=>
  intro l pre x gm u e9 gy H1 R1 r9 W hI af;obtain ⟨bx,rfl,rfl⟩:=af;obtain ⟨s,⟨G,B⟩,rfl⟩:=hI;refine AQ<|Zq<|A0<|Zh 2 W8 V rfl A5 Y<|Zl AE Y ?_;refine Zl AE Y ?_;refine Zv (Dt Y Y)<|A4<|Au Y (fun h1=>?_) (fun h1=>?_)
  ·
   refine AJ<|Zt<|Ae ?_;refine ky rfl (by exact ⟨s,by rw [<-nE O W B h1];exact G,rfl⟩)
  have m:∀y∈pre++[x],v<=y.2.rc:=fun y X=>(BE.1 X).elim (B y) (fun h=>by rw [BT.1 h];omega);refine AC<|Zx<|A0<|Zh 1 W8 V rfl A5 Y<|Zl AE Y ?_;refine Zl AE Y ?_;refine Zv (H9 Y Y)<|Zm Y<|Am (t:=29) Y V (fun h2=>?_) (fun h2=>?_)
  ·
   obtain ⟨ek,cO⟩:=gI O W m h2;have d9:=X _ _ _ s cO G
   refine Yl isAgg112 Y ?_;refine Yf 3 W8 V rfl A5 Y<|Yl AE Y ?_;refine Ze (GR (vs:=[_]) Y Y (d9) Wp) ?_;rintro _ _ ⟨_,⟨s',rfl,rfl,ax⟩,rfl⟩;refine Yg (Bo Y)<|Zv (AV Y Y)<|Z0<|Zn [35] ?_;refine Zx<|AX Y (fun hb=>by cases hb)<|fun hb=>AC<|A8<|Vb rfl (by exact ⟨s',⟨by rw [Sj,AM h2];exact ax,m⟩,rfl⟩)
  repeat refine A7 Y rfl ?_
  refine Zv (AL Y Y)<|Z0<|Zn [35] ?_;refine Zx<|Ch Y<|AC<|A8<|Vb rfl (by exact ⟨s,⟨by rw [Sj,AK h2,DB];exact G,m⟩,rfl⟩)
 case hk_2=>
  intro D1 H2 K;obtain ⟨s,⟨G,B⟩,rfl⟩:=K;rw [uG O B]at G;refine Zn [] ?_;refine A8<|GI V (yx results243) Wo (by exact ⟨s,V,G⟩)
 intro D1 gq H2 K;obtain ⟨s,G,rfl⟩:=K;refine Ae ?_;refine GI V (yx results243) Wo (by exact ⟨s,V,G⟩)
end Go.Proofs.YteaiajghbkenoaaGreatDoor
namespace Go.Proofs
open Go.Shelf
def Tryz.sortIv_ren:Go.Shelf.Ren:=⟨fun|6=>240|15=>117|14=>282|28=>199|29=>200|20=>316|21=>317|22=>318|23=>319|24=>320|25=>321|26=>322|27=>323|46=>338|47=>250|48=>251|49=>339|50=>340|57=>347|n=>n,fun|22=>280|24=>282|25=>339|3=>3|39=>222|0=>0|53=>300|55=>302|4=>4|46=>292|45=>291|50=>297|5=>5|9=>9|66=>348|70=>108|76=>385|77=>386|n=>n,fun|n=>n⟩
theorem Tryz.sortIv:Go.Proofs.SlLaysF0.n6 prog Tryz.sortIv_ren:={
 mixed:=by kernel_rfl
 f6:=⟨Tryz.f240.name,by decide,func240.trans (congrArg some A6)⟩
 f14:=⟨Tryz.f282.name,by decide,func282.trans (congrArg some A6)⟩
 f15:=func117.trans (congrArg some A6)
 f20:=⟨Tryz.f316.name,by decide,func316.trans (congrArg some A6)⟩
 f21:=⟨Tryz.f317.name,by decide,func317.trans (congrArg some A6)⟩
 f22:=⟨Tryz.f318.name,by decide,func318.trans (congrArg some A6)⟩
 f23:=⟨Tryz.f319.name,by decide,func319.trans (congrArg some A6)⟩
 f24:=⟨Tryz.f320.name,by decide,func320.trans (congrArg some A6)⟩
 f25:=⟨Tryz.f321.name,by decide,func321.trans (congrArg some A6)⟩
 f26:=⟨Tryz.f322.name,by decide,func322.trans (congrArg some A6)⟩
 f27:=⟨Tryz.f323.name,by decide,func323.trans (congrArg some A6)⟩
 f28:=func199.trans (congrArg some A6)
 f29:=func200.trans (congrArg some A6)
 f46:=⟨Tryz.f338.name,by decide,func338.trans (congrArg some A6)⟩
 f47:=func250.trans (congrArg some A6)
 f48:=func251.trans (congrArg some A6)
 f49:=⟨Tryz.f339.name,by decide,func339.trans (congrArg some A6)⟩
 f50:=⟨Tryz.f340.name,by decide,func340.trans (congrArg some A6)⟩
 f57:=⟨Tryz.f347.name,by decide,func347.trans (congrArg some A6)⟩
 t0:=cY
 a0:=isAgg0
 z0:=sizeOf0
 v0:=cn
 t3:=Cp
 a3:=AE
 z3:=A5
 v3:=H3
 t4:=NO
 a4:=E0
 z4:=CH
 v4:=V0
 t5:=Lq
 a5:=V1
 z5:=I2
 v5:=S5
 t9:=GF
 a9:=HB
 z9:=F1
 v9:=HQ
 t22:=Z2
 a22:=isAgg280
 z22:=sizeOf280
 v22:=zeroValue280
 t25:=underlying339
 a25:=isAgg339
 z25:=sizeOf339
 v25:=zeroValue339
 t39:=W4
 a39:=isAgg222
 z39:=fL
 v39:=eh
 t45:=kx
 a45:=isAgg291
 z45:=sizeOf291
 v45:=lf
 t46:=l3
 a46:=isAgg292
 z46:=sizeOf292
 v46:=lj
 t50:=kq
 a50:=isAgg297
 z50:=sizeOf297
 v50:=lR
 t53:=Sp
 a53:=HR
 z53:=Fc
 v53:=el
 t55:=W5
 a55:=a6
 z55:=db
 v55:=en
 t66:=l4
 a66:=isAgg348
 z66:=sizeOf348
 v66:=ln
 t70:=lA
 a70:=isAgg108
 z70:=T0
 v70:=WD
 t76:=lB
 a76:=isAgg385
 z76:=sizeOf385
 v76:=lr
 t77:=lE
 a77:=isAgg386
 z77:=sizeOf386
 v77:=lx}
end Go.Proofs
namespace Go.Proofs.YteaiajghbkenoaaGreatDoor
open Go.Proofs.Tryz
open Go Go.RowKit Gw
set_option maxRecDepth 100000
attribute [local irreducible] Gw.At Gw.Nx Gw.Ops
open Go.Sort Go.Shelf
theorem gK(a b:IvM)(W:World):Calls prog 241 #[.agg #[I4 a.lo,I4 a.hi,I4 a.rc,I4 a.id],.agg #[I4 b.lo,I4 b.hi,I4 b.rc,I4 b.id]] W fun e B=>e= .returned (I4 (Lib.compareInt a.lo b.lo))/\∃q m,B=grow (W.drewN q) m:=by
 go_enter func241,ntmps241
 go_wp2
 all_goals (try simp only [G1]at*)
 all_goals go_ret
 all_goals refine ⟨?_,0,_,by rw [alloc_eq_grow,alloc_eq_grow,grow_grow];rfl⟩
 all_goals (simp [Lib.compareInt]<;>(try split)<;>(first|rfl|omega))
def CJ(l:List IvM):List Value:=l.flatMap fun x=>[I4 x.lo,I4 x.hi,I4 x.rc,I4 x.id]
instance:Inhabited IvM:=⟨⟨0,0,0,0⟩⟩
def NH(x:IvM):List Value:=[I4 x.lo,I4 x.hi,I4 x.rc,I4 x.id]
def aa(a b:IvM):Int:=Lib.compareInt a.lo b.lo
theorem Qm(l:List IvM):(CJ l).length=l.length*4:=by
 induction l with
 |nil=>rfl
 |cons a l ih=>simp only [CJ,HL,B7,DH]at ih⊢;rw [ih];simp;omega
theorem ltI(a b:IvM):ltOf aa a b=decide (a.lo<b.lo):=by
 unfold ltOf aa Lib.compareInt;apply decide_eq_decide.2;split<;>(try split)<;>omega
theorem sy:SWO (ltOf aa)where
 irrefl x:=by rw [ltI];simp
 trans x y z h1 h2:=by rw [ltI]at*;simp only [G1]at*;omega
 ntrans x y z h1 h2:=by rw [ltI]at*;simp only [N0]at*;omega
theorem cZ(w:Value)(o:List IvM)(s:List A9)(hn:o.length<=1000000)(cO:Bb 4 282 w o.length (CJ o) s):
 BZ prog 240 #[w,.func (.func 241) #[] #[]] [s]
  (fun r H'=>r= .tuple #[]/\∃(s':List A9) (o':List IvM),o'.Perm o/\(o'.Pairwise fun a b=>a.lo<=b.lo)/\Bb 4 282 w o'.length (CJ o') s'/\H'=[s']):=by
 obtain ⟨ek,⟨rfl,h0,rfl⟩|⟨g,cap,cur,z,rfl,rfl,cu,af,J,d9,W⟩⟩:=cO
 · intro u R w0 Z
   have ho:o=[]:=LO h0;subst ho;have hN:=AnyF.slices_SortFunc_none Tryz.sortIv none 0 (.func (.func 241) #[] #[]) w0
   exact hN.mono (by
    rintro e w' ⟨rfl,rfl⟩;exact .inl ⟨_,_,V,⟨V,[],[],.refl _,.nil,Bf _ _,V⟩,Z⟩)
 · intro u R w0 Z
   have hb:=Z.get (g,.cells cur 282 z) B0;have hH:=TZ (w:=w0) (g:=g) (cur:=cur) (e:=282) (z:=z) NH 4 (fun _=>rfl) o hb (by rw [J];omega) W d9
   have eg:∀(args:Array Value) (w:World),(callFunc 241 args).run prog w= .ok (.enter 241 args) w:=enters_of func241 A6 rfl;have O:CmpLays prog 241 #[] NH 4 aa g 0 o.toArray.size w0:=by
    intro m os dk gm x y;exact gK x y _
   have U:=AnyQ.slices_SortFunc Tryz.sortIv 4 isAgg282 Nd NH (fun _=>rfl) (fun x v hv=>by simp [NH]at hv;rcases hv with rfl|rfl|rfl|rfl<;>rfl) aa sy 241 #[] g 0 cap o.toArray w0 eg O hH (Z.lt (p:=(g,.cells cur 282 z)) B0) HS;refine U.mono ?_;rintro e w' ⟨rfl,B,n,os,⟨ax,-,hpm⟩,hso,rfl⟩;have G:B.size=o.length:=by simpa using ax
   have hF:(flatK NH 4 B).toList=CJ B.toList:=Nn NH 4 (fun _=>rfl) B.toList;have K:(flatK NH 4 B).size=o.length*4:=by rw [size_flatK,G]
   have I:B.toList.Perm o:=by
    have e1:B.extract 0 o.toArray.size=B:=by
     rw [show o.toArray.size=B.size by rw [G];simp];exact Array.extract_size
    rw [e1]at hpm;simpa using hpm
   have X:B.toList.length=o.length:=I.length_eq;refine .inl ⟨_,[[(g,.cells (putCells id 0 (flatK NH 4 B) cur) 282 z)]],V,⟨V,_,B.toList,I,?_,?_,V⟩,Z.sortedK NH B os⟩
   · rw [du]
     intro i j hi hj bn;have h:=hso i j (C0 _) bn HS
     rw [ltI]at h;simp only [N0]at h;rw [getElem!_pos B i (by simpa using hi),getElem!_pos B j (by simpa using hj)]at h;simp only [Array.getElem_toList];omega
   · rw [X]
     refine ⟨by rw [Qm,X],.inr ⟨g,cap,_,z,rfl,rfl,cu,af,by rw [MQ];exact J,?_,by rw [MQ];exact W⟩⟩;have h:=VL cur (flatK NH 4 B) (by rw [K,J];omega)
     rw [K,hF]at h;exact h
end Go.Proofs.YteaiajghbkenoaaGreatDoor
namespace Go.Proofs.YteaiajghbkenoaaGreatDoor
open Go.Proofs.Tryz
open Go Go.RowKit Gw
set_option maxRecDepth 100000
attribute [local irreducible] Gw.At Gw.Nx Gw.Ops
variable{l:List IvM}{i:Nat}{x:IvM}
theorem ZM(h:l[i]?=some x):(CJ l)[i*4+1]?=some (I4 x.hi)/\(CJ l)[i*4+2]?=some (I4 x.rc):=by
 induction l generalizing i with
 |nil=>simp at h
 |cons a l ih=>
  cases i with
  |zero=>simp at h;subst h;exact ⟨rfl,rfl⟩
  |succ i=>
   have m:l[i]?=some x:=by simpa using h
   rw [show(i+1)*4+1=i*4+1+4 by omega,show(i+1)*4+2=i*4+2+4 by omega];exact ih m
theorem ZL(h:l[i]?=some x)(r:Int):(CJ l).set (i*4+2) (I4 r)=CJ (l.set i {x with rc:=r}):=by
 induction l generalizing i with
 |nil=>simp at h
 |cons a l ih=>
  cases i with
  |zero=>simp at h;subst h;rfl
  |succ i=>
   have m:l[i]?=some x:=by simpa using h
   rw [show(i+1)*4+2=i*4+2+4 by omega];have:=ih m
   show _::_::_::_::(CJ l).set (i*4+2) (I4 r)=_;rw [this];rfl
variable{cur:Array Value}{n:Nat}
theorem rf(B:cur.toList.take (n*4)=CJ l)(h:l[i]?=some x):cur[i*4+1]?=some (I4 x.hi)/\cur[i*4+2]?=some (I4 x.rc):=by
 obtain ⟨m,h2⟩:=ZM h;rw [<-B,HA]at m h2;constructor
 · by_cases hc:i*4+1<n*4
   · rw [AM hc]at m;simpa using m
   · rw [AK hc]at m;cases m
 · by_cases hc:i*4+2<n*4
   · rw [AM hc]at h2;simpa using h2
   · rw [AK hc]at h2;cases h2
theorem rZ(m:cur.toList.take (n*4)=CJ l)(h:l[i]?=some x)(r:Int):(cur.setIfInBounds (i*4+2) (I4 r)).toList.take (n*4)=CJ (l.set i {x with rc:=r}):=by
 rw [fj,List.take_set,m,ZL h]
theorem iT{g m:Nat}{z:Nat×Nat}(O:l.length=n)(K:cur.toList.take (n*4)=CJ l)(J:n<=m)(B:m<=maxLen)(G:cur.size=m*4)(I:IZ z cur.size):Bb 4 282 (I6 g n m) l.length (CJ l) [(g,.cells cur 282 z)]:=by
 subst O;exact ⟨Qm l,.inr ⟨g,m,cur,z,V,V,J,B,G,K,I⟩⟩
def Nh(x:IvM):Int×Int×Int:=(x.lo,x.hi,x.id)
def nY(l:List IvM)(i:Nat):Prop:=∀(j k:Nat) (x y:IvM),j<=k->k<i->l[j]?=some x->l[k]?=some y->x.hi<=y.rc
theorem V9{r:Int}(h:nY l i)(W:l[i]?=some x)(U:x.hi<=r)(O:∀y,0<i->l[i -1]?=some y->y.rc<=r):nY (l.set i {x with rc:=r}) (i+1):=by
 have I:=(B9.1 W).1;intro j k a b J Z m G;rw [Sf]at m G;rcases Dg k i with hki|hki
 · rw [AK A1]at m G
   exact h j k a b J hki m G
 · obtain rfl:k=i:=by omega
   rw [AM rfl,AM I]at G;injection G with G
   subst G;by_cases B:k=j
   · rw [AM B,AM I]at m;injection m with m;subst m;exact U
   · rw [AK B]at m
     obtain ⟨y,K⟩:∃y,l[k -1]?=some y:=⟨_,B4 A1⟩;have X:=h j (k -1) a y A1 A1 m K
     have h2:=O y A1 K;show a.hi<=r
     omega
theorem TN{r:Int}(B:l[i]?=some x):(l.set i {x with rc:=r}).map Nh=l.map Nh:=by
 apply Ln;intro k;rw [DM,DM,Sf];by_cases m:i=k
 · subst m
   rw [AM rfl,AM (B9.1 B).1,B];rfl
 · rw [AK m]
theorem eQ(w:Value)(o:List IvM)(s:List A9)(hn:o.length<=1000000)(d9:Bb 4 282 w o.length (CJ o) s):BZ prog 183 #[w] [s] (fun r H'=>r=w/\∃(s':List A9) (l o':List IvM),o'.Perm o/\(o'.Pairwise fun a b=>a.lo<=b.lo)/\l.map Nh=o'.map Nh/\nY l l.length/\Bb 4 282 w l.length (CJ l) s'/\H'=[s']):=by
 have p9:=mL;obtain ⟨pw,cw,rfl⟩:=d9.form;refine Se func183 ntmps183 [0] ?_;intro u R;refine A0<|A3 Y<|A0<|Zm Y<|Zc [_,_] Y call240 Y V (cZ _ o s hn d9) ?_;rintro _ _ ⟨_,⟨rfl,s1,o1,cu,l8,l5,rfl⟩,rfl⟩;have kv:=cu.length_eq
 refine A4<|Zq<|A0<|Zm Y<|Zv (Aa Z2 Y)<|Zm Y<|A4<|AQ<|Zb [8,0,7] ?_;refine BB (e0:=[(8,_)]) (fun m e H=>∃(i:Nat) (l:List IvM) (s2:List A9),m=o.length -i/\((i<=o.length/\l.length=o.length)/\l.map Nh=o1.map Nh/\nY l i/\Bb 4 282 (.slice pw o.length cw) l.length (CJ l) s2)/\e=[(8,I4 (i:Int))]/\H=[s2]) (by exact ⟨0,o1,s1,V,⟨⟨C0 _,kv⟩,V,fun j k x y _ h=>absurd h (eI k),l5⟩,V,V⟩) Wp ?_;rintro _ _ _ ⟨i,l,s2,rfl,⟨⟨o9,j3⟩,W,K,cO⟩,rfl,rfl⟩;refine A0<|Zv (Av Y Y)<|A4<|Zq<|Au Y (fun j5=>?_) (fun j5=>?_)
 ·
  refine AC<|Zx<|Zq<|AQ<|A0<|Zm Y<|A3 Y<|Zq ?_;rcases cO with⟨o8,⟨gm,h0,rfl⟩|⟨g,cap,cur,z,gm,rfl,p8,af,ax,ek,bn⟩⟩
  · omega
  injection gm with e1 e2 e3
  subst e1 e3;obtain ⟨x,Z⟩:∃x,l[i]?=some x:=⟨_,B4 A1⟩;have gy:=rf ek Z
  refine Zg<|Zm Y<|Zm Y<|Zm Y<|Zm Y<|BX (Ac Z2 Nd Y Y A1)<|Zv (Ap (off:=1) W8 rfl rfl A5 Y)<|Zl AE Y (hv:=by exact (by rw [Cl];exact gy.1)) ?_;refine BX (Ac Z2 Nd Y Y A1)<|Zv (Ap (off:=2) W8 V rfl A5 Y)<|Xe (Zs A5 Y Y V (hi:=by omega) (hz:=by exact bn)) ?_;refine Z0<|Zn [0,3,7,8] ?_;refine Zx<|Zq ?_;obtain ⟨U,G⟩:∃U,U=cur.setIfInBounds (0+i*4+2) (I4 x.hi):=⟨_,rfl⟩;rw [<-G];have B:U.toList.take (l.length*4)=CJ (l.set i {x with rc:=x.hi}):=by rw [G,Cl];exact rZ ek Z x.hi
  have I:U.size=cw*4:=by rw [G,SM];exact ax
  have J:IZ z U.size:=by rw [I,<-ax];exact bn
  have X:(l.set i {x with rc:=x.hi})[i]?=some {x with rc:=x.hi}:=by rw [Sf,AM rfl,AM A1]
  have gB:=rf B X;refine Zg<|Zm Y<|Zv (DJ (n:=0) Y Y)<|A4<|Au Y (fun gq=>?_) (fun gq=>?_)
  ·
   obtain ⟨y,hy⟩:∃y,l[i -1]?=some y:=⟨_,B4 A1⟩;have l9:(l.set i {x with rc:=x.hi})[i -1]?=some y:=by rw [Sf,AK A1];exact hy
   have ic:=rf B l9;refine Az (n:=17) (0::0::0::0::12::28::60::0::0::256::896::1920::3968::8188::16383::32767::65535::[]) 65536 A6 A6 rfl<|A2 0 rfl (AO Y)<|A2 1 rfl (AO Y)<|A2 2 rfl (AO Y)<|A2 3 rfl (AO Y)<|A2 4 rfl (Ac Z2 Nd Y Y A1)<|A2 5 rfl (Ap (off:=2) W8 rfl rfl A5 Y)<|B3 6 rfl AE Y (hv:=by exact (by rw [Cl];exact gB.2)) ?_;refine A2 7 V (AO Y)<|A2 8 V (AO Y) ?_
   (refine Dp (D':=1023) 9 (CO (n:=1) Y Y ?_ ?_) ?_;(focus (omega));(focus (omega)))
   refine A2 10 rfl (Ac Z2 Nd Y Y A1)<|A2 11 rfl (Ap (off:=2) W8 rfl rfl A5 Y)<|B3 12 rfl AE Y (hv:=by exact (by rw [Cl];exact ic.2)) ?_;refine A2 13 V (Q9 Y Y)<|A2 14 V (Ac Z2 Nd Y Y A1)<|A2 15 V (Ap (off:=2) W8 V rfl A5 Y)<|Zz (l:=[16])<|B1 [false,false] [] V rfl (Zs A5 Y Y V (hi:=by omega) (hz:=by exact J)) ?_ (fun _ _ h=>h.elim) Ai;rintro _ _ ⟨rfl,rfl⟩;refine B5<|Ah<|Zn [0,7,8] ?_;refine A8<|Zx<|Zg<|Ya (n:=1) Y Y<|Zm Y<|Z0<|Zn [8,0,7] ?_;refine Ab (e':=[(8,_)]) (by exact ⟨i+1,(l.set i {x with rc:=x.hi}).set i {x with rc:=max x.hi y.rc},[(g,.cells (U.setIfInBounds (0+i*4+2) (I4 (max x.hi y.rc))) 282 z)],rfl,⟨⟨by omega,by simp;omega⟩,by rw [TN X,TN Z];exact W,by rw [List.set_set];exact V9 K Z A1 (fun y2 _ O=>by rw [hy]at O;injection O with O;rw [<-O];omega),iT HS (by rw [Cl,e2];exact rZ B X _) A1 af (by rw [SM];exact I) (by rw [SM];exact J)⟩,rfl,rfl⟩)
  refine AC<|A8<|Zx<|Zg<|Ya (n:=1) Y Y<|Zm Y<|Z0<|Zn [8,0,7] ?_;refine Ab (e':=[(8,_)]) (by exact ⟨i+1,l.set i {x with rc:=x.hi},[(g,.cells U 282 z)],rfl,⟨⟨by omega,by simp;omega⟩,by rw [TN Z];exact W,V9 K Z A1 (fun y2 h0=>absurd h0 A1),iT HS (by rw [e2];exact B) A1 af I J⟩,rfl,rfl⟩)
 obtain rfl:i=o.length:=by omega
 refine Ay<|Zt<|Zt<|AR<|Zx<|A0<|Zm Y<|A3 Y<|AJ<|AP V results183 Y (by exact ⟨V,s2,l,o1,cu,l8,W,j3▸K,cO,V⟩)
theorem uX(v:Int):∀{l:List IvM},(l.Pairwise fun a b=>a.lo<=b.lo)->l.takeWhile (fun x=>decide (x.lo<=v))=l.filter fun x=>decide (x.lo<=v)
 |[],_=>rfl
 |a::l,h=>by
  obtain ⟨B,h2⟩:=PC.1 h;by_cases m:a.lo<=v
  · rw [pL (by simpa using m),List.filter_cons_of_pos (by simpa using m),uX v h2]
  · rw [pN (by simpa using m),j0 (by simpa using m)]
    exact (j1.2 fun b G=>by have:=B b G;simp;omega).symm
theorem Uu(v:Int):∀{q:List IvM},(q.Pairwise fun a b=>b.hi<=a.rc)->(∀a∈q,a.hi<=a.rc)->(q.takeWhile fun x=>decide (v<=x.rc)).filter (fun x=>decide (v<=x.hi))=q.filter fun x=>decide (v<=x.hi)
 |[],_,_=>rfl
 |a::q,h,hs=>by
  obtain ⟨G,h2⟩:=PC.1 h;by_cases B:v<=a.rc
  · rw [pL (by simpa using B),bj,bj,Uu v h2 fun b m=>hs b (EV _ m)]
  · rw [pN (by simpa using B)]
    refine (j1.2 fun b m=>?_).symm;rcases D2.1 m with rfl|m
    · have:=hs b B0;simp;omega
    · have:=G b m;simp;omega
theorem nG{v:Int}(X:l.Pairwise fun a b=>a.lo<=b.lo)(K:nY l l.length)(i:Int):i∈Il v l↔∃x∈l,x.lo<=v/\v<=x.hi/\x.id=i:=by
 have W:l.Pairwise fun a b=>a.hi<=b.rc:=du.2 fun j k m J U=>K j k _ _ A1 J (B4 m) (B4 J);have O:∀a∈l,a.hi<=a.rc:=fun a G=>by
  obtain ⟨j,m,rfl⟩:=List.mem_iff_getElem.1 G;exact K j j _ _ (CD _) m (B4 m) (B4 m)
 unfold Il;rw [uX v X,Uu v (List.pairwise_reverse.2 (W.sublist SU)) fun a G=>O a (Ek.1 (eC.1 G)).1];simp only [Bk,Ek,eC,G1];constructor
 · rintro ⟨x,⟨⟨I,B⟩,h2⟩,rfl⟩;exact ⟨x,I,B,h2,rfl⟩
 · rintro ⟨x,I,B,h2,rfl⟩;exact ⟨x,⟨⟨I,B⟩,h2⟩,rfl⟩
variable{o:List IvM}
theorem ZE(m:l.map Nh=o.map Nh){a b i:Int}:(∃x∈l,x.lo=a/\x.hi=b/\x.id=i)↔∃x∈o,x.lo=a/\x.hi=b/\x.id=i:=by
 have h:∀{l:List IvM},(∃x∈l,x.lo=a/\x.hi=b/\x.id=i)↔(a,b,i)∈l.map Nh:=fun{l}=>by
  simp only [Bk,Nh,gx]
 rw [h,h,m]
theorem ZF(m:l.map Nh=o.map Nh)(B:o.Pairwise fun a b=>a.lo<=b.lo):l.Pairwise fun a b=>a.lo<=b.lo:=by
 have h:∀{l:List IvM},(l.Pairwise fun a b=>a.lo<=b.lo)↔(l.map Nh).Pairwise fun a b=>a.1<=b.1:=fun{l}=>by
  rw [T7];rfl
 rw [h,m];exact h.1 B
def R6(x:Int×QM):IvM:=⟨x.2.lo,x.2.hi,0,x.1⟩
def plQ(x:Int×QM):Int×Int:=(x.2.tb,x.2.cl)
def Eb(vs:List (Int×QM))(k:Int×Int):List IvM:=(vs.filter fun x=>decide (plQ x=k)).map R6
def FM(vs:List (Int×QM))(t:Int):List Int:=(vs.filter fun x=>decide (x.2.kd=7/\x.2.ot=t)).map (·.1)
theorem TQ(vs:List (Int×QM))(x:Int×QM)(k:Int×Int):Eb (vs++[x]) k=if k=plQ x then Eb vs (plQ x)++[R6 x]else Eb vs k:=by
 unfold Eb;rw [Hh,Bm];by_cases h:k=plQ x
 · subst h;simp
 · rw [AK h,j0 (by simpa using fun e=>h e.symm)];simp
theorem Ni(vs:List (Int×QM))(x:Int×QM)(t:Int):FM (vs++[x]) t=if x.2.kd=7/\t=x.2.ot then FM vs x.2.ot++[x.1]else FM vs t:=by
 unfold FM;rw [Hh,Bm];by_cases h:x.2.kd=7/\t=x.2.ot
 · obtain ⟨m,rfl⟩:=h;simp [m]
 · rw [AK h,j0 (by simpa using fun e1 e2=>h ⟨e1,e2.symm⟩)];simp
theorem ZO(a b:List IvM):CJ (a++b)=CJ a++CJ b:=by unfold CJ;rw [N1]
abbrev uy(vs:List (Int×QM))(lm:List ((Int×Int)×Value))(M:List A9):Prop:=UI 4 282 lm (fun k=>(Eb vs k).length) (fun k=>CJ (Eb vs k)) M
abbrev bF(vs:List (Int×QM))(lm:List (Int×Value))(M:List A9):Prop:=UI 1 3 lm (fun t=>(FM vs t).length) (fun t=>(FM vs t).map fun i=>Value.int .i64 i) M
variable{vs:List (Int×QM)}{M:List A9}
theorem mY{lm:List ((Int×Int)×Value)}(W:(lm.map (·.1)).Nodup)(h:uy vs lm M)(x:Int×QM):
 ∃s B,Bb 4 282 ((EG (plQ x) lm).getD (.slice none 0 0)) (Eb vs (plQ x)).length (CJ (Eb vs (plQ x))) s/\M.Perm (s++B)/\∀(I:Value) (G:List A9) (m:List ((Int×Int)×Value)),(m.map (·.1)).Nodup->(∀p,p∈m↔p=(plQ x,I)\/(p∈lm/\p.1≠plQ x))->
  Bb 4 282 I (Eb vs (plQ x)++[R6 x]).length (CJ (Eb vs (plQ x)++[R6 x])) G->uy (vs++[x]) m (G++B):=by
 obtain ⟨s,B,K,h2,O⟩:=QJ W h (plQ x);refine ⟨s,B,K,h2,fun I G m J X Z=>?_⟩;have U:=O I G _ _ m J X Z
 have e1:(fun k=>(Eb (vs++[x]) k).length)=fun k=>if k=plQ x then(Eb vs (plQ x)++[R6 x]).length else(Eb vs k).length:=funext fun k=>by
  rw [TQ];split<;>rfl
 have e2:(fun k=>CJ (Eb (vs++[x]) k))=fun k=>if k=plQ x then CJ (Eb vs (plQ x)++[R6 x])else CJ (Eb vs k):=funext fun k=>by
  rw [TQ];split<;>rfl
 unfold uy;rw [e1,e2];exact U
variable{lm:List (Int×Value)}
theorem mW(X:(lm.map (·.1)).Nodup)(h:bF vs lm M)(x:Int×QM)(K:x.2.kd=7):
 ∃s B,Bb 1 3 ((EG x.2.ot lm).getD (.slice none 0 0)) (FM vs x.2.ot).length ((FM vs x.2.ot).map fun i=>Value.int .i64 i) s/\M.Perm (s++B)/\∀(I:Value) (G:List A9) (m:List (Int×Value)),(m.map (·.1)).Nodup->(∀p,p∈m↔p=(x.2.ot,I)\/(p∈lm/\p.1≠x.2.ot))->
  Bb 1 3 I (FM vs x.2.ot++[x.1]).length ((FM vs x.2.ot++[x.1]).map fun i=>Value.int .i64 i) G->bF (vs++[x]) m (G++B):=by
 obtain ⟨s,B,O,h2,U⟩:=QJ X h x.2.ot;refine ⟨s,B,O,h2,fun I G m J Z hr=>?_⟩;have W:=U I G _ _ m J Z hr
 have e1:(fun k=>(FM (vs++[x]) k).length)=fun k=>if k=x.2.ot then(FM vs x.2.ot++[x.1]).length else(FM vs k).length:=funext fun k=>by
  rw [Ni];simp only [K,V2];split<;>rfl
 have e2:(fun k=>(FM (vs++[x]) k).map fun i=>Value.int .i64 i)=fun k=>if k=x.2.ot then(FM vs x.2.ot++[x.1]).map fun i=>Value.int .i64 i else(FM vs k).map fun i=>Value.int .i64 i:=funext fun k=>by
  rw [Ni];simp only [K,V2];split<;>rfl
 unfold bF;rw [e1,e2];exact W
theorem mX(h:bF vs lm M)(x:Int×QM)(m:x.2.kd≠7):bF (vs++[x]) lm M:=by
 have e:FM (vs++[x])=FM vs:=funext fun t=>by rw [Ni,AK (fun h=>m h.1)]
 unfold bF;rw [e];exact h
theorem jo(q:QM)(B:BJ q):BZ prog 178 #[.agg q.A30] [] (fun r H'=>r= .tuple #[I4 q.tb,I4 q.cl,I4 q.lo,I4 q.hi]/\H'=[]):=by
 refine Se func178 ntmps178 [0] ?_;intro u R;refine A0<|Ze (Bx #[_,_,_,_,_,_,_])<|AD fun G=>Za Y<|Za Y<|Za Y<|A3 Y<|Zq<|A0<|Zo Wh (AA (cs:=q.A30) E4 CC Y Wn (by exact BM V)) ?_;refine Xr [_] Y call34 Y V (JY q) ?_;refine Zv (Cm Y)<|A4<|AX Y (fun m=>?_) (fun m=>?_)
 ·
  exfalso;simp [B]at m
 refine AC<|Zx<|Zq<|Az (n:=12) (0::1::0::4::0::16::0::64::3::271::831::2047::[]) 0 A6 A6 V<|A2 0 V (AB (off:=1) CA V rfl A5 Y)<|B3 1 V AE Y ?_;refine A2 2 V (AB (off:=2) CA V rfl A5 Y)<|B3 3 V AE Y ?_;refine A2 4 V (AB (off:=3) CA V rfl A5 Y)<|B3 5 V AE Y ?_;refine A2 6 V (AB (off:=4) CA V rfl A5 Y)<|B3 7 V AE Y ?_;refine A2 8 V (Aw Y)<|A2 9 V (Aw Y)<|A2 10 V (Aw Y)<|A2 11 V (Aw Y)<|Ah<|Zn [2,3,4,5] ?_;refine Zx<|AJ<|il V results178 Y Y Y Y (by exact ⟨V,V⟩)
def bC(lm:List (Int×Value))(js:List Nat)(vs:List (Int×QM)):Prop:=vs.length=js.length/\∀x,x∈vs↔∃j∈js,lm[j]?=some (x.1,(.agg #[I4 x.2.kd,I4 x.2.tb,I4 x.2.cl,I4 x.2.lo,I4 x.2.hi,I4 x.2.bq,I4 x.2.ot]:Value))
variable{js:List Nat}{j:Nat}
theorem dB(h:bC lm js vs){x:Int×QM}(B:lm[j]?=some (x.1,(.agg #[I4 x.2.kd,I4 x.2.tb,I4 x.2.cl,I4 x.2.lo,I4 x.2.hi,I4 x.2.bq,I4 x.2.ot]:Value))):bC lm (js++[j]) (vs++[x]):=by
 refine ⟨by rw [B7,B7,h.1];rfl,fun y=>?_⟩;rw [BE,h.2];constructor
 · rintro (⟨i,hi,m⟩|m)
   · exact ⟨i,DP _ hi,m⟩
   · rw [BT.1 m];exact ⟨j,by simp,B⟩
 · rintro ⟨i,hi,m⟩
   rcases BE.1 hi with hi|hi
   · exact .inl ⟨i,hi,m⟩
   · rw [BT.1 hi,B]at m
     injection m with m
     refine .inr (BT.2 ?_);obtain ⟨a,q⟩:=x;obtain ⟨b,r⟩:=y;obtain ⟨G,q2,I,J,K,O,U⟩:=q;obtain ⟨W,X,Z,r4,r5,r6,r7⟩:=r;simp at m;simp [m]
theorem TR(vs:List (Int×QM))(k:Int×Int):(Eb vs k).length<=vs.length:=by unfold Eb;rw [B2];exact MD _ _
def Qy(o l:List IvM):Prop:=∃o':List IvM,o'.Perm o/\(o'.Pairwise fun a b=>a.lo<=b.lo)/\l.map Nh=o'.map Nh/\nY l l.length
variable{lmA:List ((Int×Int)×Value)}{pn:(Int×Int)×Value}
theorem lH(G:(lmA.map (·.1)).Nodup)(m:lmA[j]?=some pn)(p:(Int×Int)×Value):p∈lmA↔p=(pn.1,pn.2)\/(p∈lmA/\p.1≠pn.1):=by
 constructor
 · intro B
   by_cases h:p.1=pn.1
   · obtain ⟨i,hi⟩:=GW B
     obtain rfl:=Kw G hi m h;rw [m]at hi;injection hi with hi;exact .inl hi.symm
   · exact .inr ⟨B,h⟩
 · rintro (rfl|⟨h,_⟩)
   · exact DE m
   · exact h
variable{ks:List Nat}
theorem dA{I G:List ((Int×Int)×Value)}(K:(lmA.map (·.1)).Nodup)(B:lmA[j]?=some pn)(J:¬j∈ks)(W:∀p,p∈I↔∃k∈ks,lmA[k]?=some p)(U:∀p,p∈G↔p=(pn.1,pn.2)\/(p∈I/\p.1≠pn.1))(p:(Int×Int)×Value):p∈G↔∃k∈ks++[j],lmA[k]?=some p:=by
 rw [U,W];constructor
 · rintro (rfl|⟨⟨k,K,m⟩,hne⟩)
   · exact ⟨j,by simp,B⟩
   · exact ⟨k,DP _ K,m⟩
 · rintro ⟨k,O,m⟩
   rcases BE.1 O with hk1|hk1
   · refine .inr ⟨⟨k,hk1,m⟩,fun X=>J ?_⟩
     obtain rfl:=Kw K m B X;exact hk1
   · rw [BT.1 hk1,B]at m;injection m with m;exact .inl m.symm
variable{g:Int×Int->List IvM}
theorem fq(O:(lmA.map (·.1)).Nodup)(B:lmA[j]?=some pn)(G:¬j∈ks){f:Int×Int->List IvM}{l2:List IvM}(J:∀i p,lmA[i]?=some p->if i∈ks then Qy (f p.1) (g p.1)else g p.1=f p.1)(h2:Qy (g pn.1) l2):
 ∀i p,lmA[i]?=some p->if i∈ks++[j]then Qy (f p.1) ((fun k=>if k=pn.1 then l2 else g k) p.1)else(fun k=>if k=pn.1 then l2 else g k) p.1=f p.1:=by
 intro i p hi;have h:=J i p hi
 by_cases m:i=j
 · subst m
   rw [B]at hi;injection hi with hi;subst hi
   rw [AK G]at h;rw [AM B0];simp only [Hb];rw [<-h];exact h2
 · have I:p.1≠pn.1:=fun K=>m (Kw O hi B K)
   simp only [AK I,BE,BT,m,RC];exact h
theorem xS{lm:List ((Int×Int)×Value)}{l2:List IvM}{m:Int×Int}(h:UI 4 282 lm (fun x=>if x=m then l2.length else(g x).length) (fun x=>if x=m then CJ l2 else CJ (g x)) M):UI 4 282 lm (fun k=>((fun k=>if k=m then l2 else g k) k).length) (fun k=>CJ ((fun k=>if k=m then l2 else g k) k)) M:=by
 have e1:(fun k=>((fun k=>if k=m then l2 else g k) k).length)=fun x=>if x=m then l2.length else(g x).length:=funext fun k=>by
  show(if k=m then l2 else g k).length=_;split<;>rfl
 have e2:(fun k=>CJ ((fun k=>if k=m then l2 else g k) k))=fun x=>if x=m then CJ l2 else CJ (g x):=funext fun k=>by
  show CJ (if k=m then l2 else g k)=_;split<;>rfl
 rw [e1,e2];exact h
theorem ZV(vs:List (Int×QM))(t:Int):(FM vs t).length<=vs.length:=by unfold FM;rw [B2];exact MD _ _
def Ia(c:Chg)(i:Nat):List AU:=(if 1<=i/\c.had=true then [⟨c.t,c.k,c.o⟩]else [])++(if 2<=i/\c.has=true then [⟨c.t,c.k,c.n⟩]else [])
def FH(c:Chg):List AU:=Ia c 2
theorem oo(c:Chg)(i:Nat)(h:i<2):∃(fi:Nat) (rv:AU) (vb:Bool),(#[.func (.func 141) #[] #[],.func (.func 142) #[] #[]]:Array Value)[i]?=some (.func (.func fi) #[] #[])/\(∀(args:Array Value) (w:World),(callFunc fi args).run prog w= .ok (.enter fi args) w)/\
 BI prog fi #[.agg c.A28] [] (.tuple #[.agg rv.A29,.bool vb])/\(vb=true->Ia c (i+1)=Ia c i++[rv]/\∃m,FH c=Ia c i++rv::m)/\(vb=false->Ia c (i+1)=Ia c i):=by
 rcases (by omega:i=0\/i=1)with rfl|rfl
 · refine ⟨_,_,c.had,rfl,call141,V7 c,fun hv=>?_,fun hv=>?_⟩
   · unfold FH Ia EK;simp [hv]
   · unfold Ia;simp [hv]
 · refine ⟨_,_,c.has,rfl,call142,OT c,fun hv=>?_,fun hv=>?_⟩
   · unfold FH Ia EK;simp [hv]
   · unfold Ia;simp [hv]
theorem gF(c:Chg):BZ prog 185 #[.agg c.A28] [] (fun r H'=>∃b,r= .func (.func 242) #[] #[I5 b]/\H'=[[(b,.cells c.A28 69 (0,0))]]):=by
 refine Se func185 ntmps185 [0] ?_;intro u R;refine A0<|Ze (Ep Y (cs:=c.A28) A6)<|AD fun b=>A3 Y<|A0<|Zv (Bg (vs:=[]) (us:=[_]) Y Y)<|A3 Y<|AJ<|AP V results185 Y (by exact ⟨_,V,V⟩)
theorem gG(c:Chg)(b:Nat):F7 prog 242 #[I5 b] [[(b,.cells c.A28 69 (0,0))]] (fun _=>True) (fun x:AU=>#[.agg x.A29]) (FH c):=by
 intro l J hA hy s I;refine Se func242 ntmps242 [0,1] ?_;intro u R;refine A0<|Ze (Aj (vs:=[_,_]) (cs:=[_,_]) underlying340 sizeOf171 zeroValue171 Y V rfl V rfl V)<|AD fun bf=>Zv (Aa underlying340 Y)<|Zm Y<|A4<|AQ<|Zb [9,0,1,7,8] ?_;refine BB (e0:=[(9,_)]) (fun m e H=>∃(i:Nat) (s:List A9),m=2 -i/\(i<=2/\J (Ia c i) s)/\e=[(9,I4 (i:Int))]/\H=[s]) (by exact ⟨0,s,V,⟨by decide,I⟩,V,V⟩) Wp ?_;rintro _ _ _ ⟨i,s,rfl,⟨hi,I⟩,rfl,rfl⟩;refine A0<|Zv (Av Y Y)<|A4<|Zq<|Au Y (fun Z=>?_) (fun Z=>?_)
 ·
  obtain ⟨fi,rv,vb,W,X,af,K,O⟩:=oo c i A1;refine AC<|Zx<|Zq<|AQ<|A0<|BX (BQ underlying340 sizeOf171 Y Y A1)<|Zl isAgg171 Y (hv:=by exact W) ?_;refine A3 Y<|A0<|Zm Y<|Zo Wh (Pa #[_,_,_,_,_,_,_,_,_,_] Ft C3 Y) ?_;refine Xr [_] Y (X) Y V (af) ?_;refine Zm Y<|Zd Y V<|Zd Y V<|Ze (Al DS #[_,_,_,_,_])<|AD fun br=>Xe (Xw An _) ?_;refine AG Y<|Zn [0,1,5,6,7,8,9] ?_;refine Zx<|A0<|Zm Y<|Zm Y<|Ag (t:=20) Y V (fun G=>?_) (fun G=>?_)
  ·
   obtain ⟨hu,bn,B⟩:=K G;have ax:=hy _ _ _ s B I
   refine Zf Y Y<|Dv Y Wh (Pa #[_,_,_,_,_] CI An Y) V rfl ?_;refine Ze (GR (vs:=[_]) Y Y (ax) Wp) ?_;rintro _ _ ⟨_,⟨s',rfl,rfl,U⟩,rfl⟩;refine Yg (Bo Y)<|Zv (AV Y Y)<|A4<|AX Y (fun hb=>by cases hb)<|fun hb=>AC<|A8<|Zx<|Zg<|Ya (n:=1) Y Y<|Zm Y<|Z0<|Zn [9,0,1,7,8] ?_;refine Ab (e':=[(9,_)]) (by exact ⟨i+1,s',rfl,⟨by omega,by rw [hu];exact U⟩,rfl,rfl⟩)
  have hu:=O G;refine A7 Y V<|A7 Y V<|A7 Y V<|A7 Y V<|Zv (AL Y Y)<|A4<|Ch Y<|AC<|A8<|Zx<|Zg<|Ya (n:=1) Y Y<|Zm Y<|Z0<|Zn [9,0,1,7,8] ?_;refine Ab (e':=[(9,_)]) (by exact ⟨i+1,s,rfl,⟨by omega,by rw [hu];exact I⟩,rfl,rfl⟩)
 obtain rfl:i=2:=by omega
 refine Ay<|Zt<|Zt<|AR<|Cz V results242 (by exact ⟨s,V,I⟩)
theorem Si:Fp prog 279 K2 KD:=Fp.ofLaw (deep_law (m:=3) (by decide) (by kernel_rfl) (by kernel_rfl) (by kernel_rfl)) (by
 rintro ⟨a,b⟩ ⟨I,J⟩;have G:Tryz.prog.types.size+1=(Tryz.prog.types.size -1)+1+1:=by
  have:0<Tryz.prog.types.size:=HX A6;omega
 have hc:Tryz.prog.cellsOf 3=1:=by kernel_rfl
 have B:Tryz.prog.cellsOf 279=2:=by kernel_rfl
 have U:Tryz.prog.keyType 279=true:=by kernel_rfl
 have O:(K2 (a,b)).formed prog 279=true:=by
  unfold Value.formed K2;rw [iS];simp [B]
 unfold keyOf;rw [iS];simp only [U,O,Bool.and_self,Hb];obtain ⟨d,K⟩:∃d,Tryz.prog.types.size+1=d+1+1:=⟨_,G⟩;rw [K];unfold Program.keyLits;rw [iS];have W:=Ov prog d a Cp I
 have X:=Ov prog d b Cp J;simp [K2,Value.cells,hc,B,W,X]) ut
def uu(M:List A9)(v:Value)(l:List Int):Prop:=∃p cap,v= .slice p l.length cap/\(l.length<=maxLen/\l.length<=cap)/\∀(i:Nat) (x:Int),l[i]?=some x->∃g off cur T zz,p=some ⟨g,off,none⟩/\(g,Obj.cells cur T zz)∈M/\cur[off+i]?=some (I4 x)
variable{v:Value}
theorem uu.mono{m:List A9}{l:List Int}(h:uu M v l)(K:∀c∈M,c∈m):uu m v l:=by
 obtain ⟨p,cap,e,J,I⟩:=h;refine ⟨p,cap,e,J,fun i x O=>?_⟩;obtain ⟨g,off,cur,T,zz,B,h2,G⟩:=I i x O;exact ⟨g,off,cur,T,zz,B,K _ h2,G⟩
structure PT(sc:Int->Int->List IvM)(jn:Int->List Int)(lp:Nat)(ML:List A9):Prop where
 ex:∃ms ess cks lms mj esj ckj lmj,(lp,Obj.cells #[.map (some ms),.map (some mj)] 277 (0,0))∈ML/\(ms,Obj.map ess cks)∈ML/\Ck K2 ess cks lms/\(∀p∈lms,KD p.1)/\(mj,Obj.map esj ckj)∈ML/\Ck (fun n:Int=>Value.int .i64 n) esj ckj lmj/\
  (∀a b,UF ML ((EG (a,b) lms).getD (.slice none 0 0)) (sc a b))/\(∀t,uu ML ((EG t lmj).getD (.slice none 0 0)) (jn t))
 asc:∀a b,(sc a b).Pairwise fun x y=>x.lo<=y.lo
 len:∀a b,(sc a b).length<=1000000
def IM(sc:Int->Int->List IvM)(t:Int)(r:AU)(n:Nat):List Int:=(List.range n).flatMap fun col=>Il (Df r col) (sc t (col:Int))
def ND(sc:Int->Int->List IvM)(jn:Int->List Int)(c:Chg):List Int:=((FH c).flatMap fun r=>IM sc c.t r 4)++jn c.t
theorem Rx(sc:Int->Int->List IvM)(t:Int)(r:AU)(n:Nat):IM sc t r (n+1)=IM sc t r n++Il (Df r n) (sc t (n:Int)):=by
 unfold IM;rw [gh,N1];simp
theorem oZ(sc:Int->Int->List IvM)(t:Int)(r:AU)(h:n<4):∃m,IM sc t r 4=IM sc t r n++Il (Df r n) (sc t (n:Int))++m:=by
 rcases (by omega:n=0\/n=1\/n=2\/n=3)with rfl|rfl|rfl|rfl<;>simp only [Rx,CN]<;>first|exact ⟨_,rfl⟩|(refine ⟨[],?_⟩;simp)
variable{sc:Int->Int->List IvM}{jn:Int->List Int}{c:Chg}
theorem eU{pre B:List AU}{x:AU}(h:FH c=pre++x::B)(K:n<4){G m:List Int}{id:Int}(h2:Il (Df x n) (sc c.t (n:Int))=G++id::m):
 ∃I,ND sc jn c=((pre.flatMap fun r=>IM sc c.t r 4)++IM sc c.t x n++G)++id::I:=by
 obtain ⟨O,J⟩:=oZ sc c.t x K;unfold ND;rw [h,N1,HL,J,h2];exact ⟨m++O++(B.flatMap fun r=>IM sc c.t r 4)++jn c.t,by simp⟩
theorem Xa(v:Value)(x:Int)(B:v.oneCell'=true):BZ prog 186 #[v,I4 x] [] (fun r H'=>∃bl m,r= .func (.func 243) #[] #[I5 bl,I5 m]/\H'=[[(bl,.cells #[v] 283 (0,0))],[(m,.cells #[I4 x] 3 (0,0))]]):=by
 refine Se func186 ntmps186 [0,1] ?_;intro u R;refine A0<|Ze (Ep Y (cs:=#[v]) (by cases v<;>first|rfl|simp [Value.oneCell']at B))<|AD fun bl=>Ze (Bx #[_])<|AD fun m=>A3 Y<|A0<|Zv (Bg (vs:=[]) (us:=[_,_]) Y Y)<|A3 Y<|AJ<|AP V results186 Y (by exact ⟨bl,m,V,V⟩)
theorem kz(lp:Nat)(c:Chg):BZ prog 112 #[I5 lp,.agg c.A28] [] (fun r H'=>∃bl m,r= .func (.func 184) #[] #[I5 m,I5 bl]/\H'=[[(bl,.cells #[I5 lp] 184 (0,0))],[(m,.cells c.A28 69 (0,0))]]):=by
 refine Se func112 ntmps112 [0,1] ?_;intro u R;refine A0<|Ze (Bx #[_])<|AD fun bl=>Ze (Ep Y (cs:=c.A28) A6)<|AD fun m=>A3 Y<|A0<|Zv (Bg (vs:=[]) (us:=[_,_]) Y Y)<|A3 Y<|AJ<|AP V results112 Y (by exact ⟨bl,m,V,V⟩)
variable{lp:Nat}{ML:List A9}
theorem l6(hL:PT sc jn lp ML)(c:Chg)(o9:∀r∈FH c,∀n:Nat,n<4->-1000000000000<=Df r n/\Df r n<=1000000000000)(p8:-9223372036854775808<=c.t/\c.t<=9223372036854775807)(vw:(jn c.t).length<=1000000)(bc bl:Nat):F7 prog 184 #[I5 bc,I5 bl] [[(bc,.cells c.A28 69 (0,0))],[(bl,.cells #[I5 lp] 184 (0,0))]] (fun s=>∀x∈ML,x∈s) (fun i:Int=>#[I4 i]) (ND sc jn c):=by
 have wo:=mL;obtain ⟨ms,ve,sM,y5,mj,sO,sJ,x9,ax,qo,gm,pz,ql,ek,af,pg⟩:=hL.ex;intro ly J hA hy s B;refine DL func184 V ntmps184 V ?_;intro u R;refine Zb [0,1,2] ?_;refine A0<|Ze (Bx #[_])<|AD fun by_=>A4<|Zq<|A0<|Zo Wh (Pa #[_,_,_,_,_,_,_,_,_,_] Ft C3 Y) ?_;refine Zc [_] Y call185 Y V (gF c) ?_;rintro _ _ ⟨_,⟨br,rfl,rfl⟩,rfl⟩;refine A4<|AQ<|Zb [1,2,3,10] ?_;refine PR (H0:=_) (R:=_) (I:=(fun(pre:List AU) H=>∃s,J (pre.flatMap fun r=>IM sc c.t r 4) s/\H=[[(bc,.cells c.A28 69 (0,0))],[(bl,.cells #[I5 lp] 184 (0,0))],[(by_,.cells #[.func (.yield ly) #[] #[]] 112 (0,0))],s])) (E:=fun x e Hn=>∃bw,e=[(4,I5 bw),(11,.agg x.A29)]/\Hn=[[(bw,.cells x.A29 83 (0,0))]]) V Y call242 (gG c br) (fun _ _ _ _ _=>trivial) Y V Wp (⟨s,B,V⟩) ?ha_2 ?hbd_2 ?hk_2
 case ha_2=>
  intro _ x _ _;refine Zg<|Ze (Al DS #[_,_,_,_,_])<|AD fun b2=>Xe (Xw An _) ?_;refine Z0<|Ll (e:=[(4,_),(11,_)]) (Hn:=[[(_,_)]]) ?_;exact ⟨_,V,V⟩
 case hbd_2=>
  intro l pre x kv u e9 l5 H1 R1 r9 K hI U;obtain ⟨bw,rfl,rfl⟩:=U;obtain ⟨s,B,rfl⟩:=hI;have j3:=K
  refine AQ<|A0<|Zm Y<|A4<|AQ<|Zb [12,1,2,3,4] ?_;refine BB (e0:=[(12,_)]) (fun m e H=>∃(n:Nat) (s:List A9),m=4 -n/\(n<=4/\J ((pre.flatMap fun r=>IM sc c.t r 4)++IM sc c.t x n) s)/\e=[(12,I4 (n:Int))]/\H=[s]) (by exact ⟨0,s,rfl,⟨by decide,by rw [show IM sc c.t x 0=[] from rfl,DB];exact B⟩,rfl,rfl⟩) Wp ?_;rintro _ _ _ ⟨n,s,rfl,⟨wz,B⟩,rfl,rfl⟩;refine A0<|Zv (Av (n:=4) Y Y)<|A4<|Zq<|Au Y (fun qa=>?_) (fun qa=>?_)
  ·
   have ic:=hA _ s B;have cu:=ic _ ax
   have gq:=ic _ qo;obtain ⟨pv,cv,gy,_,_⟩:=af c.t (n:Int);have sj:x∈FH c:=by rw [K];simp
   have qz:=o9 x sj n A1;have pq:KD (c.t,(n:Int)):=⟨Un p8,Un A1⟩
   have cO:n<4:=by omega
   refine AC<|Zx<|Zq<|AQ<|A0<|Zm Y<|A3 Y<|Zq<|Az (n:=13) (0::1::3::7::0::16::0::112::255::0::0::1536::4095::[]) 6144 A6 A6 V<|B3 0 V isAgg184 Y ?_;refine A2 1 V (Aq Y V)<|A2 2 V (AB (off:=0) eW V rfl sizeOf274 Y)<|D8 (D':=15) 3 V rfl V (FL Wo (cu)) (BO isAgg274 Y AN) ?_;refine A2 4 V (AB (off:=0) B8 V rfl A5 Y)<|B3 5 V AE Y ?_;refine A2 6 V (AO Y)<|A2 7 V (BL (vs:=[(0,_),(1,_)]) (cs:=#[_,_]) Y (AY (pl:=#[(0,1),(1,1)]) lz iS (fun _=>by kernel_rfl) V))<|D8 (D':=511) 8 V rfl V (FL Wo (gq)) (Db Si underlying274 zeroValue283 gm pz (pq) (gy) Y Y) ?_;refine E6 9 V Wh (AA (cs:=#[_,_,_,_,_]) CI An Y Ax AN) ?_;refine A2 10 V (AO Y)<|Zz (l:=[11])<|B1 [false,true,true,true,true] [(8,(_,_)),(5,(_,_)),(3,(_,_)),(0,(_,_))] V rfl (Zu [_,_] Y S8 Y V (OQ x n A1)) ?_ (fun _ _ h=>h.elim) Ai;rintro _ _ ⟨rfl,rfl⟩;refine ⟨FE (by simp [*]) (Zk (FE (by simp [*]) (Zk (AZ)))),?_⟩;refine Zz (l:=[12])<|B1 [false,false,false,false] [] V rfl (Zw [_,_] Y call186 Y V (Xa (.slice pv (sc c.t (n:Int)).length cv) (Df x n) V)) ?_ Bz Ai;rintro _ _ ⟨_,⟨l8,l9,rfl,rfl⟩,rfl⟩;refine B5<|Ah<|Zn [1,2,3,4,12,27] ?_;refine Zx<|AQ<|Zb [1,2,3,4,12,27] ?_;refine gW (H0:=_) (R:=_) (I:=(fun(O:List Int) H=>∃s,J ((pre.flatMap fun r=>IM sc c.t r 4)++IM sc c.t x n++O) s/\H=[[(by_,.cells #[.func (.yield ly) #[] #[]] 112 (0,0))],s])) (E:=fun x e Hn=>e=[(6,I4 x),(28,I4 x)]/\Hn=[]) rfl Wh Y call243 (Xb (gy▸af c.t (n:Int)) (hL.len _ _) (hL.asc _ _) (Df x n) qz l8 l9) (by rintro O _ c9 ⟨s,h1,rfl⟩;intro q hq;have:=hA _ s h1 q hq;simp [this]) Y rfl Wp (⟨s,by simpa using B,rfl⟩) ?ha_7 ?hbd_7 ?hk_7
   case ha_7=>
    intro _ x _ _;refine Zg<|AG Y<|Ll (e:=[(6,_),(28,_)]) (Hn:=[]) ?_;exact ⟨V,V⟩
   case hbd_7=>
    intro l pre x kv u e9 l5 H1 R1 r9 K hI U;obtain ⟨rfl,rfl⟩:=U;obtain ⟨s,B,rfl⟩:=hI;obtain ⟨sw,qw⟩:=eU (jn:=jn) j3 cO K;have Z:=hy _ _ _ s qw B
    refine AQ<|A0<|Zl isAgg112 Y ?_;refine Zm Y<|Ze (GR (vs:=[_]) Y Y (Z) Wp) ?_;rintro _ _ ⟨_,⟨s',rfl,rfl,X⟩,rfl⟩;refine Zv (Bo Y)<|A4<|AX Y (fun hb=>by cases hb)<|fun hb=>AC<|A8<|F3 rfl (by exact ⟨s',by rw [<-CN];exact X,rfl⟩)
   intro H2 W;obtain ⟨s,B,rfl⟩:=W;refine Zn [1,2,3,4,12] ?_;refine A8<|A8<|Zx<|Zg<|Ya (n:=1) Y Y<|Zm Y<|Z0<|Zn [12,1,2,3,4] ?_;refine Ab (e':=[(12,_)]) (by exact ⟨n+1,s,rfl,⟨by omega,by rw [Rx,<-CN];exact B⟩,rfl,rfl⟩)
  obtain rfl:n=4:=by omega
  refine Ay<|Zt<|Zt<|AR<|A8<|F3 rfl (by exact ⟨s,by rw [N1,mm];exact B,rfl⟩)
 intro D1 H2 W;obtain ⟨s,B,rfl⟩:=W;refine Zn [1,2,3] ?_;refine A8<|Zx<|Zq ?_;have gB:=hA _ s B
 have bn:=gB _ ax;have d9:=gB _ ql
 obtain ⟨pj,cj,qx,⟨vz,vo⟩,p9⟩:=pg c.t;refine Az (n:=9) (0::1::3::7::0::16::63::127::0::[]) 0 A6 A6 V<|B3 0 V isAgg184 Y ?_;refine A2 1 V (Aq Y V)<|A2 2 V (AB (off:=1) eW V rfl sizeOf275 Y)<|D8 (D':=15) 3 V rfl V (FL Wo (bn)) (BO isAgg275 Y AN) ?_;refine A2 4 V (AB (off:=0) B8 V rfl A5 Y)<|B3 5 V AE Y ?_;refine D8 (D':=127) 6 V rfl V (FL Wo (d9)) (Db (Ca Cp (D:=fun _=>True)) underlying275 zeroValue36 ek (fun _ _=>trivial) (trivial) (qx) Y Y) ?_;refine A2 7 V (Aa D0 Y)<|A2 8 V (AO Y)<|Ah<|Zx<|AQ<|Zb [42,3,40,41] ?_;refine BB (e0:=[(42,_)]) (fun m e H=>∃(k:Nat) (s:List A9),m=(jn c.t).length -k/\(k<=(jn c.t).length/\J ((FH c).flatMap (fun r=>IM sc c.t r 4)++(jn c.t).take k) s)/\e=[(42,I4 (k:Int))]/\H=[s]) (by exact ⟨0,s,V,⟨C0 _,by simpa using B⟩,V,V⟩) Wp ?_;rintro _ _ _ ⟨k,s,rfl,⟨hk,B⟩,rfl,rfl⟩;refine A0<|Zv (Av Y Y)<|A4<|Zq<|Au Y (fun q9=>?_) (fun q9=>?_)
 ·
  obtain ⟨j5,G⟩:∃x,(jn c.t)[k]?=some x:=⟨_,B4 A1⟩;obtain ⟨g,off,cur,T,zz,rfl,qj,o8⟩:=p9 k j5 G;have qb:=hA _ s B _ qj
  have Z:=hy _ _ _ s (show ND sc jn c=((FH c).flatMap (fun r=>IM sc c.t r 4)++(jn c.t).take k)++j5::(jn c.t).drop (k+1) by unfold ND;rw [CN,<-OH G]) B;refine AC<|Zx<|Zq<|AQ<|A0<|BX (Cf D0 A5 Y Y dq)<|CQ (Gs Wo (qb)) (BO AE Y (by exact o8)) rfl rfl ?_;refine A3 Y<|A0<|Zl isAgg112 Y ?_;refine Zm Y<|Ze (GR (vs:=[_]) Y Y (Z) Wp) ?_;rintro _ _ ⟨_,⟨s',rfl,rfl,X⟩,rfl⟩;refine Zv (Bo Y)<|A4<|AX Y (fun hb=>by cases hb)<|fun hb=>AC<|A8<|Zx<|Zg<|Ya (n:=1) Y Y<|Zm Y<|Z0<|Zn [42,3,40,41] ?_;refine Ab (e':=[(42,_)]) (by exact ⟨k+1,s',rfl,⟨by omega,by rw [Bn G,<-CN];exact X⟩,rfl,rfl⟩)
 obtain rfl:k=(jn c.t).length:=by omega
 rw [G0]at B;refine Ay<|Zt<|Zt<|AR<|GI V (yx results184) Wo (by exact ⟨s,V,B⟩)
theorem ZN(h:l[i]?=some x):((CJ l).drop (i*4)).take 4=[I4 x.lo,I4 x.hi,I4 x.rc,I4 x.id]:=by
 induction l generalizing i with
 |nil=>simp at h
 |cons a l ih=>
  cases i with
  |zero=>simp at h;subst h;rfl
  |succ i=>
   have m:l[i]?=some x:=by simpa using h
   rw [show(i+1)*4=i*4+4 by omega];exact ih m
theorem ZK{s:List A9}(h:Bb 4 282 v l.length (CJ l) s)(U:∀c∈s,c∈M):UF M v l:=by
 rcases h with⟨_,⟨rfl,h0,_⟩|⟨g,cap,cur,z,rfl,rfl,G,J,K,I,O⟩⟩
 · have m:=LO h0
   subst m;exact ⟨none,0,V,⟨C0 _,CD _⟩,fun i x B=>by simp at B⟩
 · refine ⟨_,cap,rfl,⟨by omega,G⟩,fun i x B=>?_⟩
   have hi:=(B9.1 B).1;refine ⟨g,0,cur,_,z,V,U _ (BT.2 V),by omega,?_⟩;have m:=ZN B
   rw [<-I,eJ,TX]at m;apply HC.1;rw [Array.toList_extract,pP,Cl,show i*4+4 -i*4=4 by omega];rw [show min 4 (l.length*4 -i*4)=4 by omega]at m;exact m
theorem ZU{l:List Int}{s:List A9}(h:Bb 1 3 v l.length (l.map fun i=>Value.int .i64 i) s)(U:∀c∈s,c∈M):uu M v l:=by
 rcases h with⟨_,⟨rfl,h0,_⟩|⟨g,cap,cur,z,rfl,rfl,G,J,K,I,O⟩⟩
 · have m:=LO h0
   subst m;exact ⟨none,0,V,⟨C0 _,CD _⟩,fun i x B=>by simp at B⟩
 · refine ⟨_,cap,rfl,⟨by omega,G⟩,fun i x B=>?_⟩
   have hi:=(B9.1 B).1;refine ⟨g,0,cur,_,z,V,U _ (BT.2 V),?_⟩;have m:(l.map fun i=>Value.int .i64 i)[i]?=some (I4 x):=by rw [DM,B];rfl
   rw [<-I,HA,AM A1]at m;simpa using m
structure JM(qs:List (Int×QM))(sc:Int->Int->List IvM)(jn:Int->List Int):Prop where
 scan:∀a b v i,i∈Il v (sc a b)↔∃x∈qs,x.1=i/\plQ x=(a,b)/\x.2.lo<=v/\v<=x.2.hi
 join:∀t i,i∈jn t↔∃x∈qs,x.1=i/\x.2.kd=7/\x.2.ot=t
 small:∀t,(jn t).length<=1000000
theorem z8{x y:Int×QM}(h:(x.1,(.agg #[I4 x.2.kd,I4 x.2.tb,I4 x.2.cl,I4 x.2.lo,I4 x.2.hi,I4 x.2.bq,I4 x.2.ot]:Value))=(y.1,(.agg #[I4 y.2.kd,I4 y.2.tb,I4 y.2.cl,I4 y.2.lo,I4 y.2.hi,I4 y.2.bq,I4 y.2.ot]:Value))):x=y:=by
 obtain ⟨a,q⟩:=x;obtain ⟨b,r⟩:=y;obtain ⟨m,q2,B,G,I,J,K⟩:=q;obtain ⟨O,U,W,X,Z,r6,r7⟩:=r;simp at h;simp [h]
variable{qs:List (Int×QM)}{es:Array MapEntry}{ck:Nat}
theorem oV(m:Ee qs es ck lm)(I:bC lm js vs)(J:(DR lm js).Perm lm)(x:Int×QM):x∈vs↔x∈qs:=by
 rw [I.2];constructor
 · rintro ⟨j,_,G⟩
   obtain ⟨y,O,B⟩:=(m.mem _).1 (DE G);rw [z8 B];exact O
 · intro K
   have h:=J.mem_iff.2 ((m.mem _).2 ⟨x,K,rfl⟩);obtain ⟨j,G,B⟩:=XS.1 h;exact ⟨j,G,B⟩
theorem lF{κ:Type} [DecidableEq κ]{l m:List (κ×Value)}(J:(l.map (·.1)).Nodup)(K:(m.map (·.1)).Nodup)(h:∀p,p∈l↔p∈m)(k:κ):EG k l=EG k m:=by
 by_cases G:∃v,(k,v)∈l
 · obtain ⟨v,hv⟩:=G
   rw [D5 J hv,D5 K ((h _).1 hv)]
 · rw [DW (l:=l) fun p I B=>G ⟨p.2,by rw [<-B];exact I⟩,DW (l:=m) fun p I B=>G ⟨p.2,by rw [<-B];exact (h p).2 I⟩]
theorem nA(h:Qy o l)(v i:Int):i∈Il v l↔∃x∈o,x.lo<=v/\v<=x.hi/\x.id=i:=by
 obtain ⟨o',I,W,m,U⟩:=h;rw [nG (ZF m W) U];constructor
 · rintro ⟨x,B,K,h2,O⟩
   obtain ⟨y,G,e1,e2,J⟩:=(ZE (a:=x.lo) (b:=x.hi) (i:=x.id) m).1 ⟨x,B,rfl,rfl,rfl⟩;exact ⟨y,I.mem_iff.1 G,by omega,by omega,by omega⟩
 · rintro ⟨x,B,K,h2,O⟩
   obtain ⟨y,G,e1,e2,J⟩:=(ZE (a:=x.lo) (b:=x.hi) (i:=x.id) m).2 ⟨x,I.mem_iff.2 B,rfl,rfl,rfl⟩;exact ⟨y,G,by omega,by omega,by omega⟩
theorem nC(h:Qy o l):l.length=o.length:=by
 obtain ⟨o',G,J,B,I⟩:=h;have m:=congrArg List.length B
 rw [B2,B2]at m;rw [m];exact G.length_eq
theorem eu(l8:Ee qs es ck lm)(o9:js.length<=1000000)(X:bC lm js vs)(gB:(DR lm js).Perm lm)
 {gm:List A9}(cO:(lmA.map (·.1)).Nodup)(j3:uy vs lmA gm){O:Array MapEntry}{J:Nat}{af:List (Int×Value)}{MJ:List A9}(l5:Ck (fun n:Int=>Value.int .i64 n) O J af)(j5:bF vs af MJ)
 {U:Array MapEntry}{K:Nat}{m:List ((Int×Int)×Value)}{MS:List A9}(d9:Ck K2 U K m)(gq:∀p∈lmA,KD p.1)(gy:∀p,p∈m↔∃k∈ks,lmA[k]?=some p)
 (ax:UI 4 282 lmA (fun k=>(g k).length) (fun k=>CJ (g k)) MS)(kv:∀j p,lmA[j]?=some p->if j∈ks then Qy (Eb vs p.1) (g p.1)else g p.1=Eb vs p.1)(ic:(DR lmA ks).Perm lmA)
 {mz mj:Nat}(h1:(lp,Obj.cells #[.map (some mz),.map (some mj)] 277 (0,0))∈ML)(h2:(mz,Obj.map U K)∈ML)(h3:(mj,Obj.map O J)∈ML)(h4:∀c∈MS,c∈ML)(h5:∀c∈MJ,c∈ML):
 PT (fun a b=>g (a,b)) (FM vs) lp ML/\JM qs (fun a b=>g (a,b)) (FM vs):=by
 have hv:=oV l8 X gB;have cu:∀j p,lmA[j]?=some p->j∈ks:=fun j p hj=>by
  obtain ⟨i,hi,he⟩:=XS.1 (ic.mem_iff.2 (DE hj));obtain rfl:=Kw cO he hj rfl;exact hi
 have hS:∀p,p∈m↔p∈lmA:=fun p=>by
  rw [gy];constructor
  · rintro ⟨k,_,hk⟩;exact DE hk
  · intro B
    obtain ⟨i,hi⟩:=GW B;exact ⟨i,cu i p hi,hi⟩
 have bn:∀k,EG k m=EG k lmA:=lF d9.keys cO hS;have hD:∀k,Qy (Eb vs k) (g k):=fun k=>by
  by_cases hk:∃v,(k,v)∈lmA
  · obtain ⟨v,o8⟩:=hk
    obtain ⟨i,hi⟩:=GW o8;have h:=kv i _ hi
    rw [AM (cu i _ hi)]at h;exact h
  · have hn:EG k lmA=none:=DW fun p B he=>hk ⟨p.2,by rw [<-he];exact B⟩
    obtain ⟨s,W,_⟩:=ax.row k;obtain ⟨s',ek,_⟩:=j3.row k;rw [hn]at W ek;have e1:(g k).length=0:=by
     rcases W with⟨_,⟨_,h,_⟩|⟨g9,cap,cur,z,h,_⟩⟩
     · exact h
     · simp at h
    have e2:(Eb vs k).length=0:=by
     rcases ek with⟨_,⟨_,h,_⟩|⟨g9,cap,cur,z,h,_⟩⟩
     · exact h
     · simp at h
    rw [LO e1,LO e2];exact ⟨[],.refl _,.nil,V,fun j k x y _ h=>absurd h (eI k)⟩
 refine ⟨⟨⟨mz,U,K,m,mj,O,J,af,h1,h2,d9,fun p B=>gq p ((hS p).1 B),h3,l5,fun a b=>?_,fun t=>?_⟩,fun a b=>?_,fun a b=>?_⟩,⟨fun a b v i=>?_,fun t i=>?_,fun t=>?_⟩⟩
 · obtain ⟨s,W,hs⟩:=ax.row (a,b)
   rw [bn];exact ZK W fun c hc=>h4 c (hs c hc)
 · obtain ⟨s,W,hs⟩:=j5.row t
   exact ZU W fun c hc=>h5 c (hs c hc)
 · obtain ⟨o',B,l9,hk,W⟩:=hD (a,b)
   exact ZF hk l9
 · have:=nC (hD (a,b))
   have:=TR vs (a,b);have:=X.1
   show(g (a,b)).length<=1000000;omega
 · rw [nA (hD (a,b))]
   unfold Eb;simp only [Bk,Ek,G1];constructor
   · rintro ⟨_,⟨x,⟨Z,B⟩,rfl⟩,G,I,a3⟩
     exact ⟨x,(hv x).1 Z,a3,B,G,I⟩
   · rintro ⟨x,Z,a3,B,G,I⟩
     exact ⟨_,⟨x,⟨(hv x).2 Z,B⟩,V⟩,G,I,a3⟩
 · unfold FM
   simp only [Bk,Ek,G1];constructor
   · rintro ⟨x,⟨Z,G,I⟩,rfl⟩
     exact ⟨x,(hv x).1 Z,V,G,I⟩
   · rintro ⟨x,Z,rfl,G,I⟩
     exact ⟨x,⟨(hv x).2 Z,G,I⟩,V⟩
 · have:=ZV vs t
   have:=X.1;omega
variable{mp ip:Nat}
theorem lJ(W:Ee qs es ck lm)(hq:∀x∈qs,BJ x.2)(hl:qs.length<=500):BZ prog 111 #[I5 ip] [[(ip,.cells #[.map (some mp),.pointer none] 186 (0,0))],[(mp,.map es ck)]] (fun r H'=>∃lp ML sc jn,r=I5 lp/\PT sc jn lp ML/\JM qs sc jn/\H'=[[(ip,.cells #[.map (some mp),I5 lp] 186 (0,0))],[(mp,.map es ck)],ML]):=by
 have hml:=mL;have hll:=W.len
 refine Se func111 ntmps111 [0] ?_;intro u R;refine A0<|A3 Y<|Zq<|A0<|Zm Y<|Zp Y V<|Zh 1 Q1 V rfl ZS Y<|Zl isAgg184 Y ?_;refine Zv (NB underlying184 Y Y)<|A4<|AX Y (fun hb=>by cases hb)<|fun hb=>AC<|Zx<|A0<|Ze (DT)<|AD fun ma=>A3 Y<|A0<|Ze (DT)<|AD fun mz=>Ze (DT)<|AD fun mj=>Zv (BL (vs:=[(0,_),(1,_)]) (cs:=#[_,_]) Y (AY (pl:=#[(0,1),(1,1)]) zeroValue277 eW (fun _=>by kernel_rfl) V))<|Ze (Bx #[_,_])<|AD fun lp=>AG Y<|Zn [0,3,4] ?_;refine Zx<|Zq<|A0<|Zm Y<|Zp Y V<|Zh 0 Q1 V rfl dd Y<|Zl dj Y ?_;refine Ze (NL cV Y Wh)<|AD fun ib=>A4<|AQ<|BV<|BV<|BV<|Zb [0,3,4,32] ?_;refine BB (e0:=[]) (fun m e H=>∃(js:List Nat) (seen:Array Nat) (vs:List (Int×QM)) (Z:Array MapEntry) (U:Nat) (lmA:List ((Int×Int)×Value)) (J:Array MapEntry) (G:Nat) (j5:List (Int×Value)) (X MJ MK:List A9),m=lm.length -js.length/\(Im es js seen/\bC lm js vs/\Ck K2 Z U lmA/\(∀p∈lmA,KD p.1)/\uy vs lmA X/\Ck (fun n:Int=>Value.int .i64 n) J G j5/\bF vs j5 (MJ++MK))/\e=[]/\H=[[(ib,.mapIter (some mp) ck seen ck)],[(ma,.map Z U)],[(mj,.map J G)],X,MJ,MK]) (by exact ⟨[],#[],[],#[],0,[],#[],0,[],[],[],[],V,⟨KG _,⟨V,fun x=>by simp⟩,EQ _,fun p hp=>by simp at hp,aL _ _,EQ _,aL _ _⟩,V,V⟩) Wp ?_;rintro _ _ _ ⟨js,seen,vs,Z,U,lmA,J,G,j5,X,MJ,MK,rfl,⟨gq,gB,B,d9,p9,ek,pg⟩,rfl,rfl⟩;have FT:=F4 es.size js gq.nodup gq.lt
 rw [W.map.size]at FT;refine A0<|Ze (PZ W.map gq Y Wo Wh) ?_;rintro _ _ qb;rcases qb with⟨af,rfl,rfl⟩|⟨jn,pn,seen2,hpn,hjn,hi2,rfl,rfl⟩
 ·
  have zq:=af;have l8:=gq
  refine Zd Y V<|A4<|Zq<|AX Y (fun hb=>by cases hb)<|fun hb=>Ay<|Zt<|Zt<|AR<|Zx<|Zq<|A0<|Zm Y<|Ze (NL underlying273 Y Wh)<|AD fun ic=>A4<|AQ<|BV<|Zb [0,4,79] ?_;refine BB (e0:=[]) (fun m e H=>∃(ks:List Nat) (seen:Array Nat) (g:Int×Int->List IvM) (K:Array MapEntry) (I:Nat) (kv:List ((Int×Int)×Value)) (X MB:List A9),m=lmA.length -ks.length/\(Im Z ks seen/\Ck K2 K I kv/\(∀p,p∈kv↔∃k∈ks,lmA[k]?=some p)/\UI 4 282 lmA (fun k=>(g k).length) (fun k=>CJ (g k)) (X++MB)/\(∀j p,lmA[j]?=some p->if j∈ks then Qy (Eb vs p.1) (g p.1)else g p.1=Eb vs p.1))/\e=[]/\H=[[(ic,.mapIter (some ma) U seen U)],[(mz,.map K I)],X,MB]) (by exact ⟨[],#[],Eb vs,#[],0,[],X,[],rfl,⟨KG _,EQ _,fun p=>by simp,by rw [DB];exact p9,fun j p _=>by simp⟩,rfl,rfl⟩) Wp ?_;rintro _ _ _ ⟨ks,seen,g,K,I,kv,X,MB,rfl,⟨cO,vw,p8,sw,pq⟩,rfl,rfl⟩;have Hf:=F4 Z.size ks cO.nodup cO.lt
  rw [B.size]at Hf;refine A0<|Ze (PZ B cO Y Wo Wh) ?_;rintro _ _ qb;rcases qb with⟨af,rfl,rfl⟩|⟨jn,pn,seen2,hpn,hjn,hi2,rfl,rfl⟩
  ·
   refine Zd Y V<|A4<|Zq<|AX Y (fun hb=>by cases hb)<|fun hb=>Ay<|Zt<|Zt<|AR<|Zx<|Zq<|CK (s1:=[(lp,Obj.cells #[.map (some mz),.map (some mj)] 277 (0,0))]) (s2:=[(mz,Obj.map K I)]) Wo Wo ?_;refine CK (s1:=([(lp,Obj.cells #[.map (some mz),.map (some mj)] 277 (0,0))]++[(mz,Obj.map K I)])) (s2:=[(mj,Obj.map J G)]) Wo Wo ?_;refine CK (s1:=(([(lp,Obj.cells #[.map (some mz),.map (some mj)] 277 (0,0))]++[(mz,Obj.map K I)])++[(mj,Obj.map J G)])) (s2:=X) Wo Wo ?_;refine CK (s1:=((([(lp,Obj.cells #[.map (some mz),.map (some mj)] 277 (0,0))]++[(mz,Obj.map K I)])++[(mj,Obj.map J G)])++X)) (s2:=MB) Wo Wo ?_;refine CK (s1:=(((([(lp,Obj.cells #[.map (some mz),.map (some mj)] 277 (0,0))]++[(mz,Obj.map K I)])++[(mj,Obj.map J G)])++X)++MB)) (s2:=MJ) Wo Wo ?_;refine CK (s1:=((((([(lp,Obj.cells #[.map (some mz),.map (some mj)] 277 (0,0))]++[(mz,Obj.map K I)])++[(mj,Obj.map J G)])++X)++MB)++MJ)) (s2:=MK) Wo Wo ?_;refine Zg<|Zm Y<|Zm Y<|Zp Y V<|Zh 1 Q1 V rfl ZS Y<|Xe (Zs ZS Y Y V) ?_;refine A4<|A0<|Zm Y<|A3 Y<|AJ<|AP V results111 Y (by
    have Gl:=F4 es.size js l8.nodup l8.lt;rw [W.map.size]at Gl;obtain ⟨zk,zl⟩:=eu W A1 gB zq B.keys p9 ek pg vw d9 p8 sw pq af (lp:=lp) (mz:=mz) (mj:=mj) (ML:=(((((([(lp,Obj.cells #[.map (some mz),.map (some mj)] 277 (0,0))]++[(mz,Obj.map K I)])++[(mj,Obj.map J G)])++X)++MB)++MJ)++MK)) B0 B0 B0 (fun c hc=>by simp only [BE]at hc⊢;rcases hc with hc|hc<;>simp [hc]) (fun c hc=>by simp only [BE]at hc⊢;rcases hc with hc|hc<;>simp [hc]);exact ⟨lp,_,_,_,V,zk,zl,V⟩)
  refine Zd Y V<|A4<|Zq<|AX Y (fun hb=>?_) (fun hb=>?_)
  ·
   have ve:=F4 Z.size (ks++[jn]) hi2.nodup hi2.lt;rw [B.size,B7,E7]at ve;have LD:(ks++[jn]).length=ks.length+1:=by rw [B7];rfl
   refine AC<|Zx<|AQ<|A0<|CQ (cs:=[(ic,.mapIter (some ma) U seen2 U),(ma,.map Z U)]) B0 (JA B hi2 hpn Y) V rfl ?_;refine Zd Y V<|Zd Y V<|Ze (Al lz #[_,_])<|AD fun kb=>Xe (Xw sizeOf279 #[I4 pn.1.1,I4 pn.1.2]) ?_;refine AG Y<|Zx ?_;have zt:g pn.1=Eb vs pn.1:=by have h:=pq jn pn hpn;rwa [AK hjn]at h
   have zu:(g pn.1).length<=1000000:=by rw [zt];have:=TR vs pn.1;have:=gB.1;omega
   have Gw:∀p∈kv,KD p.1:=fun p hp=>by
    obtain ⟨k,_,hk⟩:=(p8 p).1 hp;exact d9 p (DE hk)
   have HZ:KD pn.1:=d9 pn (DE hpn);obtain ⟨sA,cu,O,ax,gm⟩:=QJ B.keys sw pn.1;rw [D5 B.keys (DE hpn)]at O;refine CK (s1:=X) (s2:=MB) Wo Wo ?_;refine U5 (M:=X++MB) Wo ax ?_;refine Az (n:=8) (0::1::3::7::0::0::32::127::[]) 192 A6 A6 V<|A2 0 V (AO Y)<|A2 1 V (Aq Y V)<|A2 2 V (AB (off:=0) eW V rfl sizeOf274 Y)<|B3 3 V isAgg274 Y ?_;refine E6 4 V Wh (AA (cs:=#[I4 pn.1.1,I4 pn.1.2]) isAgg279 sizeOf279 Y Wn (by exact BM V)) ?_;refine A2 5 V (AO Y)<|Zz (l:=[6])<|B1 [true,true] [(4,(_,_)),(3,(_,_))] V rfl (Zw [_] Y call183 Y V (eQ _ (g pn.1) sA zu O)) ?_ Bz Ai;rintro _ _ ⟨_,⟨rfl,s2,l2,o2,MS,P6,LC,y9,P5,rfl⟩,rfl⟩;refine B5<|Yw 7 255 V (F9 Si underlying274 vw Gw (HZ) Y Y Y Wo) ?_;rintro _ _ ⟨rfl,zf,za,P7,MC,ME,rfl⟩;refine Ah<|Zn [0,4,79] ?_;refine A8<|Zn [0,4,79] ?_;refine Ab (e':=[]) (by exact ⟨ks++[jn],seen2,fun k=>if k=pn.1 then l2 else g k,zf,za,P7,s2,cu,V,⟨hi2,MC,dA B.keys hpn hjn p8 ME,xS (gm pn.2 s2 _ _ lmA B.keys (lH B.keys hpn) P5),fq B.keys hpn hjn pq ⟨o2,MS,P6,LC,y9⟩⟩,V,V⟩)
  cases hb
 obtain ⟨x,hx,rfl⟩:=(W.mem pn).1 (DE hpn);have qw:=hq x hx
 refine Zd Y V<|A4<|Zq<|AX Y (fun hb=>?_) (fun hb=>?_)
 ·
  have sM:=F4 es.size (js++[jn]) hi2.nodup hi2.lt;rw [W.map.size,B7,E7]at sM;have LD:(js++[jn]).length=js.length+1:=by rw [B7];rfl
  have hvj:=gB.1;have Y2:=TR vs (plQ x)
  have Ty:=ZV vs x.2.ot;have o9:=dB gB hpn
  refine AC<|Zx<|AQ<|A0<|CQ (cs:=[(ib,.mapIter (some mp) ck seen2 ck),(mp,.map es ck)]) B0 (JA W.map hi2 hpn Y) V rfl ?_;refine Zd Y V<|Zd Y V<|Ze (Al Mu #[_,_,_,_,_,_,_])<|AD fun xb=>Za Y<|Xe (Xw CC #[I4 x.2.kd,I4 x.2.tb,I4 x.2.cl,I4 x.2.lo,I4 x.2.hi,I4 x.2.bq,I4 x.2.ot]) ?_;refine A4<|A0<|Zo Wh (AA (cs:=#[I4 x.2.kd,I4 x.2.tb,I4 x.2.cl,I4 x.2.lo,I4 x.2.hi,I4 x.2.bq,I4 x.2.ot]) E4 CC Y Wn (by exact BM V)) ?_;refine Zc [_] Y call178 Y V (jo x.2 qw) ?_;rintro _ _ ⟨_,⟨rfl,rfl⟩,rfl⟩;refine Zm Y<|Zd Y V<|Zd Y V<|Zd Y V<|Zd Y V<|Za Y<|Za Y<|Za Y<|AG Y<|Zn [0,3,4,5,6,7,8,9,10,32] ?_;refine Zx<|A0<|Zm Y<|Zm Y<|Zv (BL (vs:=[(0,_),(1,_)]) (cs:=#[_,_]) Y (AY (pl:=#[(0,1),(1,1)]) lz iS (fun _=>by kernel_rfl) V))<|Ze (Al lz #[_,_])<|AD fun pb=>Xe (BK sizeOf279 Y Y (by(simp [Value.oneCell',Value.cells];done)) Wu (by exact (rfl:_=(#[I4 x.2.tb,I4 x.2.cl]:Array Value))) E3 Wn (by exact BA _)) ?_;refine A4<|Zq ?_;obtain ⟨sA,cu,O,ax,gm⟩:=mY B.keys p9 x;obtain ⟨qo,Qe,y5⟩:=O.form;rw [y5]at O;have pz:KD (plQ x):=⟨Un (by have:=qw.1;simp [plQ];omega),Un (by have:=qw.2.1;simp [plQ];omega)⟩
  refine U5 (M:=X) Wo ax ?_;refine Zg<|Zm Y<|Zo Wh (AA (cs:=#[I4 x.2.tb,I4 x.2.cl]) isAgg279 sizeOf279 Y Wn (by exact BM V)) ?_;refine Zm Y<|Zm Y<|Zm Y<|Zv (BL (vs:=[(0,_),(1,_),(3,_)]) (cs:=#[_,_,_,_]) Y (AY (pl:=#[(0,1),(1,1),(2,1),(3,1)]) zeroValue282 W8 (fun _=>by kernel_rfl) V))<|Ze (Aj (vs:=[_]) (cs:=[_,_,_,_]) Z2 Nd zeroValue282 Y V rfl V rfl V)<|AD fun gb=>Ze (KU Si underlying273 zeroValue280 B d9 (pz) (y5) Y Y Wo) ?_;rintro _ _ ⟨Tg,Ta,lm3,j3,st3,rfl,Mx,zy,zm,wo,rfl⟩;refine Zd Y V<|Ze (BR (by_:=32) (sz:=4) Z2 (V:Tryz.prog.info? 282=some Tryz.t282) V rfl V rfl Y (O) Y (DC 4 gb 1 1 282 (0,0) [I4 (R6 x).lo,I4 (R6 x).hi,I4 (R6 x).rc,I4 (R6 x).id] V) Wo Wo Fl A1 A1) ?_;rintro _ _ ⟨qz,o8,rfl⟩;have vz:=BS o8 (n':=(Eb vs (plQ x)++[R6 x]).length) (xs':=CJ (Eb vs (plQ x)++[R6 x])) (by rw [B7];rfl) (by rw [ZO];rfl)
  obtain ⟨Tp,T9,rfl⟩:=o8.form;refine Zd Y V<|Ze (Ip Mx zy zm Y Y Y Wo) ?_;rintro _ _ ⟨rfl,sj,r9,qx,q9,wz,rfl⟩;refine Z0<|Zn [0,3,4,5,6,32] ?_;refine Zx<|Zq ?_;have sO:∀p∈qx,KD p.1:=fun p hp=>by
   rcases (wz p).1 hp with rfl|⟨h,_⟩
   · exact pz
   · rcases (wo p).1 h with rfl|⟨h,_⟩
     · exact pz
     · exact d9 p h
  have l5:=gm _ _ _ q9.keys (fun p=>by rw [wz,wo];exact OB _ _ _ _) vz;refine CK (s1:=qz) (s2:=cu) Wo Wo ?_;refine Zg<|Zh 0 CA V rfl A5 Y<|Zl AE Y ?_;refine Zv (CP Y Y)<|A4<|Au Y (fun h7=>?_) (fun h7=>?_)
  ·
   obtain ⟨sJ,yt,bn,gy,ql⟩:=mW ek.keys pg x h7;obtain ⟨qj,Qd,x9⟩:=bn.form;rw [x9]at bn;refine CK (s1:=MJ) (s2:=MK) Wo Wo ?_;refine U5 (M:=MJ++MK) Wo gy ?_;refine Az (n:=17) (0::1::3::7::0::16::0::64::192::448::0::1024::4032::0::8192::32704::65535::[]) 114688 A6 A6 V<|A2 0 V (AO Y)<|A2 1 V (Aq Y V)<|A2 2 V (AB (off:=1) eW V rfl sizeOf275 Y)<|B3 3 V isAgg275 Y ?_;refine A2 4 V (AB (off:=6) CA V rfl A5 Y)<|B3 5 V AE Y ?_;refine A2 6 V (AO Y)<|A2 7 V (Aq Y V)<|A2 8 V (AB (off:=1) eW V rfl sizeOf275 Y)<|B3 9 V isAgg275 Y ?_;refine A2 10 V (AB (off:=6) CA V rfl A5 Y)<|B3 11 V AE Y ?_;refine E6 12 V Wh (Db (Ca Cp (D:=fun _=>True)) underlying275 zeroValue36 ek (fun _ _=>trivial) (trivial) (x9) Y Y) ?_;refine A2 13 V (AO Y)<|Zz (l:=[14])<|B1 [true,true,true,true,true] [(12,(_,_)),(11,(_,_)),(9,(_,_)),(5,(_,_)),(3,(_,_))] V rfl (Aj (vs:=[_]) (cs:=[_]) D0 A5 H3 Y V rfl V rfl V) ?_ (fun _ _ h=>h.elim) Ai;rintro _ _ ⟨gj,rfl,rfl⟩;refine B5<|Yz 15 32704 65535 [12,11,9,5,3] [false,false,false,true,true] [(5,(_,_)),(3,(_,_))] V Y V rfl V rfl (BR (by_:=8) (sz:=1) D0 (V:Tryz.prog.info? 3=some Tryz.t3) V rfl V rfl Y (bn) Y (DC 1 gj 1 1 3 (0,0) [I4 x.1] V) Wo Wo Fl A1 A1) ?_;rintro _ _ ⟨Ps,l9,rfl⟩;refine ⟨Zk (Zk (AZ)),?_⟩;have qa:=BS l9 (n':=(FM vs x.2.ot++[x.1]).length) (xs':=(FM vs x.2.ot++[x.1]).map fun i=>Value.int .i64 i) (by rw [B7];rfl) (by rw [Bm];rfl)
   obtain ⟨Tm,Rl,rfl⟩:=l9.form;refine Yw 16 131071 V (F9 (Ca Cp (D:=fun _=>True)) underlying275 ek (fun _ _=>trivial) (trivial) Y Y Y Wo) ?_;rintro _ _ ⟨rfl,zi,zb,Pn,vo,MP,rfl⟩;refine Ah<|Zn [0,3,4,32] ?_;refine A8<|Zn [0,3,4,32] ?_;refine Ab (e':=[]) (by exact ⟨js++[jn],seen2,vs++[x],sj,r9,qx,zi,zb,Pn,qz++cu,Ps,yt,V,⟨hi2,o9,q9,sO,l5,vo,ql _ _ _ vo.keys MP qa⟩,V,V⟩)
  refine AC<|A8<|Zn [0,3,4,32] ?_;refine Ab (e':=[]) (by exact ⟨js++[jn],seen2,vs++[x],sj,r9,qx,J,G,j5,qz++cu,MJ,MK,V,⟨hi2,o9,q9,sO,l5,ek,mX pg x h7⟩,V,V⟩)
 cases hb
theorem lK:BZ prog 111 #[I5 ip] [[(ip,.cells #[.map (some mp),I5 lp] 186 (0,0))]] (fun r H'=>r=I5 lp/\H'=[[(ip,.cells #[.map (some mp),I5 lp] 186 (0,0))]]):=by
 refine Se func111 ntmps111 [0] ?_;intro u R;refine A0<|A3 Y<|Zq<|A0<|Zm Y<|Zp Y V<|Zh 1 Q1 V rfl ZS Y<|Zl isAgg184 Y ?_;refine Zv (NA underlying184 Y Y)<|A4<|AX Y (fun m=>?_) (fun m=>?_)
 ·
  refine A0<|Zm Y<|Zp Y V<|Zh 1 Q1 V rfl ZS Y<|Zl isAgg184 Y ?_;refine A3 Y<|AJ<|Zt<|AP V results111 Y (by exact ⟨V,V⟩)
 cases m
theorem Hy{r:AU}:r∈FH c↔(c.had=true/\r=⟨c.t,c.k,c.o⟩)\/(c.has=true/\r=⟨c.t,c.k,c.n⟩):=by
 unfold FH Ia;rw [BE];cases c.had<;>cases c.has<;>simp
theorem NR(h:c.ok){r:AU}(G:r∈FH c):r.ok:=by
 obtain ⟨_,h2,_,_⟩:=h;rcases Hy.1 G with⟨m,rfl⟩|⟨m,rfl⟩
 · have e:c.before=⟨c.t,c.k,c.o⟩:=by unfold Chg.before;rw [AM m]
   rw [e]at h2;exact aE fun B=>h2 (.inl ⟨m,B⟩)
 · have e:c.after=⟨c.t,c.k,c.n⟩:=by unfold Chg.after;rw [AM m]
   rw [e]at h2;exact aE fun B=>h2 (.inr ⟨m,B⟩)
theorem bS(h:c.ok):∀r∈FH c,∀n:Nat,n<4->-1000000000000<=Df r n/\Df r n<=1000000000000:=fun r G n _=>by
 obtain ⟨⟨m,h2,B⟩,I,J⟩:=NR h G;simp only [inV]at m h2 B;unfold Df;split
 · omega
 · split
   · omega
   · split<;>omega
theorem bU(h:c.ok):0<=c.t/\c.t<=3:=by
 have h0:c.had=true\/c.has=true:=by
  obtain ⟨m,_⟩:=h;cases e1:c.had<;>cases e2:c.has<;>simp_all
 rcases h0 with h0|h0
 · exact (NR h (Hy.2 (.inl ⟨h0,rfl⟩))).2.1
 · exact (NR h (Hy.2 (.inr ⟨h0,rfl⟩))).2.1
theorem xu{q:QM}(h:Nz q c=true):∃r∈FH c,inQ q r=true:=by
 unfold Nz bfQ afQ Ht at h;rw [S0]at h;rcases h with h|h
 · split at h
   · rename_i h1
     rw [Fi]at h1;exact ⟨_,Hy.2 (.inl ⟨h1.1,V⟩),h1.2⟩
   · cases h
 · split at h
   · rename_i h1
     rw [Fi]at h1;exact ⟨_,Hy.2 (.inr ⟨h1.1,V⟩),h1.2⟩
   · cases h
theorem jc{q:QM}(G:BJ q)(h:Co q c=true):Nz q c=true\/(q.kd=7/\c.t=q.ot):=by
 have B:Nz q c=false->UZ q c=false/\mQ q (bfQ q c)=mQ q (afQ q c):=fun h=>by
  unfold Nz at h;unfold UZ;rw [fx]at h;obtain ⟨m,h2⟩:=h;rw [m,h2];rw [Option.isSome_eq_false_iff,Option.isNone_iff_eq_none]at m h2;rw [m,h2];exact ⟨rfl,rfl⟩
 cases ha:Nz q c with
 |true=>exact .inl rfl
 |false=>
  obtain ⟨m,h2⟩:=B ha;unfold Co at h;rw [ha,m,h2]at h;obtain ⟨_,_,_,I⟩:=G;right;simp at h;exact ⟨by omega,h.2.2.2.2⟩
theorem qm(G:JM qs sc jn){i:Int}(h:i∈ND sc jn c):∃x∈qs,x.1=i:=by
 unfold ND at h;rcases BE.1 h with h|h
 · obtain ⟨r,_,h⟩:=Rg.1 h
   obtain ⟨n,_,h⟩:=Rg.1 h;obtain ⟨x,B,m,_⟩:=(G.scan _ _ _ _).1 h;exact ⟨x,B,m⟩
 · obtain ⟨x,B,m,_⟩:=(G.join _ _).1 h
   exact ⟨x,B,m⟩
theorem zL(B:Ee qs es ck lm){x y:Int×QM}(K:x∈qs)(O:y∈qs)(G:x.1=y.1):x=y:=by
 have I:∀{l:List (Int×QM)},(l.map (·.1)).Nodup->x∈l->y∈l->x=y:=fun{l}=>by
  induction l with
  |nil=>intro _ h;cases h
  |cons a l ih=>
   intro m J h2;rw [DQ,Hi]at m;rcases D2.1 J with h3|h3
   · rcases D2.1 h2 with h4|h4
     · rw [h3,h4]
     · exact absurd (by rw [<-h3,G];exact DO h4) m.1
   · rcases D2.1 h2 with h4|h4
     · exact absurd (by rw [<-h4,<-G];exact DO h3) m.1
     · exact ih m.2 h3 h4
 exact I B.ids K O
theorem eT(B:JM qs sc jn){x:Int×QM}(J:x∈qs)(G:BJ x.2)(h:Co x.2 c=true):x.1∈ND sc jn c:=by
 unfold ND;rcases jc G h with h|⟨h7,m⟩
 · obtain ⟨r,I,hi⟩:=xu h
   unfold inQ at hi;rw [G1]at hi;have hc:=G.2.1
   have hv:=LM r x.2.cl.toNat A1;rw [show((x.2.cl.toNat:Nat):Int)=x.2.cl by omega]at hv;have m:r.t=c.t:=by rcases Hy.1 I with⟨_,rfl⟩|⟨_,rfl⟩<;>rfl
   refine DP _ (Rg.2 ⟨r,I,Rg.2 ⟨x.2.cl.toNat,JT.2 A1,?_⟩⟩);refine (B.scan _ _ _ _).2 ⟨x,J,V,?_,by omega,by omega⟩;unfold plQ;rw [show((x.2.cl.toNat:Nat):Int)=x.2.cl by omega,<-m,hi.1]
 · exact Fm _ ((B.join _ _).2 ⟨x,J,rfl,h7,m.symm⟩)
def WN(qs:List (Int×QM))(lv:Value)(ML:List A9):Prop:=(lv= .pointer none/\ML=[])\/∃lp sc jn,lv=I5 lp/\PT sc jn lp ML/\JM qs sc jn
theorem fw{P:Program}{f:FuncId}{args:Array Value}{H1 m:Hp}{Q:Value->Hp->Prop}(h:BZ P f args H1 Q)(e:m.flatten=H1.flatten):BZ P f args m Q:=fun u R w B=>h u R w (B.perm (by rw [GO,GO,e]))
theorem rH(B:Ee qs es ck lm)(J:∀x∈qs,BJ x.2)(I:qs.length<=500){lv:Value}(G:WN qs lv ML):
 BZ prog 111 #[I5 ip] [[(ip,.cells #[.map (some mp),lv] 186 (0,0))],[(mp,.map es ck)],ML] (fun r H'=>∃lp m sc jn,r=I5 lp/\PT sc jn lp m/\JM qs sc jn/\H'=[[(ip,.cells #[.map (some mp),I5 lp] 186 (0,0))],[(mp,.map es ck)],m]):=by
 rcases G with⟨rfl,rfl⟩|⟨lp,sc,jn,rfl,h1,h2⟩
 · refine (fw (H1:=[[(ip,.cells #[.map (some mp),.pointer none] 186 (0,0))],[(mp,.map es ck)]]) (lJ B J I) B0).mono ?_
   exact fun v H' h=>h
 · refine (fu lK [[(mp,.map es ck)],ML]).mono ?_
   rintro v H' ⟨H1,⟨rfl,rfl⟩,rfl⟩;exact ⟨lp,ML,sc,jn,V,h1,h2,V⟩
structure I8(S:Int->Prop)(es:Array MapEntry)(ck:Nat)(lm:List (Int×Value)):Prop where
 map:Ck (fun n:Int=>Value.int .i64 n) es ck lm
 val:∀p∈lm,p.2= .bool true
 mem:∀i,i∈lm.map (·.1)↔S i
theorem fV:I8 (fun _=>False) #[] 0 []:=⟨EQ _,fun p h=>by simp at h,fun i=>by simp⟩
variable{S:Int->Prop}
theorem I8.get(h:I8 S es ck lm)(i:Int) [Decidable (S i)]:(EG i lm).getD (.bool false)= .bool (decide (S i)):=by
 by_cases hi:S i
 · obtain ⟨p,m,rfl⟩:=Bk.1 ((h.mem i).2 hi)
   rw [D5 h.map.keys m,h.val p m,CM hi];rfl
 · rw [DW fun p m B=>hi ((h.mem i).1 (Bk.2 ⟨p,m,B⟩)),C4 hi];rfl
theorem I8.cong{T:Int->Prop}(h:I8 S es ck lm)(e:∀i,S i↔T i):I8 T es ck lm:=⟨h.map,h.val,fun i=>(h.mem i).trans (e i)⟩
theorem I8.put{J:Array MapEntry}{I:Nat}{G:List (Int×Value)}(h:I8 S es ck lm){i:Int}(U:Ck (fun n:Int=>Value.int .i64 n) J I G)(K:∀p,p∈G↔p=(i,.bool true)\/(p∈lm/\p.1≠i)):I8 (fun j=>S j\/j=i) J I G:=by
 refine ⟨U,fun p m=>?_,fun j=>?_⟩
 · rcases (K p).1 m with rfl|⟨h1,_⟩
   · rfl
   · exact h.val p h1
 · rw [<-h.mem]
   constructor
   · intro O
     obtain ⟨p,m,rfl⟩:=Bk.1 O;rcases (K p).1 m with rfl|⟨h1,_⟩
     · exact .inr rfl
     · exact .inl (DO h1)
   · intro O
     by_cases B:j=i
     · subst B;exact Bk.2 ⟨_,(K _).2 (.inl rfl),rfl⟩
     · obtain ⟨p,m,rfl⟩:=Bk.1 (O.resolve_right B)
       exact Bk.2 ⟨p,(K p).2 (.inr ⟨m,B⟩),V⟩
theorem I8.len(h:I8 S es ck lm)(O:∀i,S i->∃x∈qs,x.1=i):lm.length<=qs.length:=by
 have K:∀{a b:List Int},a.Nodup->(∀x∈a,x∈b)->a.length<=b.length:=fun{a b}=>by
  induction a generalizing b with
  |nil=>intro _ _;exact C0 _
  |cons x a ih=>
   intro m G;obtain ⟨I,m⟩:=Hi.1 m;have h2:=ih (b:=b.erase x) m fun y J=>by
    have B:y≠x:=fun e=>I (e▸J);exact (List.mem_erase_of_ne B).2 (G y (EV _ J))
   have W:=mS (G x (Dd ..));have X:=List.length_pos_of_mem (G x (Dd ..))
   rw [DH];omega
 have h2:=K (a:=lm.map (·.1)) (b:=qs.map (·.1)) h.map.keys fun i hi=>by
  obtain ⟨x,I,U⟩:=O i ((h.mem i).1 hi);exact Bk.2 ⟨x,I,U⟩
 simpa using h2
def JN(qs:List (Int×QM))(cs:List Chg)(i:Int):Prop:=∃x∈qs,x.1=i/\∃c∈cs,Co x.2 c=true
end Go.Proofs.YteaiajghbkenoaaGreatDoor
namespace Go.Proofs.YteaiajghbkenoaaGreatDoor
open Go.Proofs.Tryz
open Go Go.RowKit Gw
set_option maxRecDepth 100000
attribute [local irreducible] Gw.At Gw.Nx Gw.Ops
open Go.Sort
theorem Sr{κ:Type}{l:List (κ×Value)}{js:List Nat}(J:js.Nodup)(G:∀j∈js,j<l.length):∃m,((DR l js).map (·.1)++m).Perm (l.map (·.1)):=by
 have K:(js++(List.range l.length).filter fun j=>decide (j∉js)).Perm (List.range l.length):=(OR (Ge.2 ⟨J,(gC).sublist SU,fun a B b I=>by
  have:=(Ek.1 I).2;simp only [G1]at this;intro h;subst h;exact this B⟩) gC).2 fun a=>by
  simp only [BE,Ek,JT,G1];constructor
  · rintro (h|h)
    · exact G a h
    · exact h.1
  · intro h
    by_cases B:a∈js
    · exact .inl B
    · exact .inr ⟨h,B⟩
 have h:=(K.filterMap (fun j=>l[j]?)).map (·.1);rw [dv,Bm,show(List.range l.length).filterMap (fun j=>l[j]?)=DR l (List.range l.length) from rfl,N9]at h;exact ⟨_,h⟩
def Mk{κ:Type}(l:List (κ×Value))(p:List κ):Prop:=∃rest,(p++rest).Perm (l.map (·.1))
theorem Mk.len{κ:Type}{l:List (κ×Value)}{p:List κ}{x:κ}(h:Mk l (p++[x])):p.length<l.length:=by
 obtain ⟨r,h⟩:=h;have:=h.length_eq
 simp at this;omega
theorem cK{v:Value}{zs:List Int}{s:List A9}(O:Row 3 v (zs.map (Value.int .i64)) s)(Z:zs.length<=1000000):BZ prog 188 #[v] [s] (fun r H'=>∃(zs':List Int) (s':List A9),r= .tuple #[]/\zs'.Perm zs/\(zs'.Pairwise fun x y=>x<=y)/\Row 3 v (zs'.map (Value.int .i64)) s'/\H'=[s']):=fun u R w J=>by
 have m:=(nB zs fun x y=>decide (x<=y)).length_eq;have G:(zs.mergeSort fun x y=>decide (x<=y)).Pairwise fun x y=>x<=y:=by
  have h:=List.pairwise_mergeSort (le:=fun x y:Int=>decide (x<=y)) (fun a b c X h2=>by simp only [G1]at*;omega) (fun a b=>by simp only [S0,G1];omega) zs;simpa only [G1]using h
 rcases O with⟨rfl,h0,rfl⟩|⟨g,cap,cur,z,rfl,rfl,hle,hcm,hcs,htk,hfr⟩
 · have U:zs=[]:=by simpa using h0
   subst U;refine (Tryz.slices_Sort_int_none none 0 w).mono ?_;rintro e W ⟨rfl,rfl⟩;exact .inl ⟨_,[[]],V,⟨[],[],V,.refl _,.nil,by simp [GU],V⟩,J⟩
 · rw [B2]at hle htk⊢
   have B:Sat u ([(g,.cells cur 3 z)]::R) w:=by simpa using J
   have I:=B.get (g,.cells cur 3 z) B0;have K:=Tc I A1 hfr htk
   refine (Tryz.slices_Sort_int g 0 cap zs w K (HK.1 I).1 A1).mono ?_;rintro e W ⟨rfl,n,os,rfl⟩;refine .inl ⟨_,[[(g,.cells (putCells (Value.int .i64) 0 (zs.mergeSort fun x y=>decide (x<=y)).toArray cur) 3 z)]],V,⟨_,_,V,nB _ _,G,?_,V⟩,by simpa using B.sorted (n:=n) _ os⟩;refine .inr ⟨g,cap,_,z,by rw [B2,m],rfl,by rw [B2,m];exact hle,hcm,by rw [MU];exact hcs,?_,by rw [MU];exact hfr⟩;rw [B2];exact YU _ _ A1
theorem fG(mi:Nat):BZ prog 114 #[.map (some mi)] [] (fun r H'=>∃b,r= .func (.func 189) #[] #[I5 b]/\H'=[[(b,.cells #[.map (some mi)] 213 (0,0))]]):=by
 refine Se func114 ntmps114 [0] ?_;intro u R;refine A0<|Ze (Bx #[_])<|AD fun b=>A3 Y<|A0<|Zv (Bg (vs:=[]) (us:=[_]) Y Y)<|A3 Y<|AJ<|AP V results114 Y (by exact ⟨b,V,V⟩)
variable{es:Array MapEntry}{ck:Nat}{lm:List (Int×Value)}
theorem fH(W:Ck (fun n:Int=>(Value.int .i64) n) es ck lm)(b mi:Nat):KP prog 189 #[I5 b] [[(b,.cells #[.map (some mi)] 213 (0,0))]] (fun _ s=>(mi,Obj.map es ck)∈s) (fun x:Int=>#[I4 x]) (Mk lm) (fun ys=>ys.Perm (lm.map (·.1))):=by
 intro l J X hy s G;refine Se func189 ntmps189 [0,1] ?_;intro u R;refine A0<|Zl isAgg213 Y ?_;refine Ze (LJ underlying213 Y (FL Wo (X _ s G)))<|AD fun ib=>A4<|AQ<|Zb [0,5] ?_;refine BB (e0:=[]) (fun m e H=>∃(js:List Nat) (seen:Array Nat) (s:List A9),m=lm.length -js.length/\(Im es js seen/\J ((DR lm js).map (·.1)) s)/\e=[]/\H=[[(ib,.mapIter (some mi) ck seen ck)],s]) (by exact ⟨[],#[],s,V,⟨KG _,G⟩,V,V⟩) Wp ?_;rintro _ _ _ ⟨js,seen,s,rfl,⟨K,G⟩,rfl,rfl⟩;have Z:=F4 es.size js K.nodup K.lt
 rw [W.size]at Z;refine A0<|Ze (NM W K Y Wo (FL Wo (X _ s G))) ?_;rintro _ _ ax;rcases ax with⟨I,rfl,rfl⟩|⟨jn,pn,seen2,hpn,hjn,hi2,rfl,rfl⟩
 ·
  refine Zd Y V<|A4<|Zq<|AX Y (fun B=>by cases B)<|fun B=>Ay<|Zt<|Zt<|AR<|Cz V results189 (by exact ⟨_,s,I.map _,V,G⟩)
 refine Zd Y V<|A4<|Zq<|AX Y (fun B=>?_) (fun B=>?_)
 ·
  have U:=F4 es.size (js++[jn]) hi2.nodup hi2.lt;rw [W.size,B7,E7]at U;have cO:(js++[jn]).length=js.length+1:=by rw [B7];rfl
  have bn:Mk lm ((DR lm js).map (·.1)++[pn.1]):=by
   have h:=Sr (l:=lm) hi2.nodup (fun j hj=>by rw [<-W.size];exact hi2.lt j hj);rw [Fv lm js hpn,Bm]at h;exact h
  have cu:=hy ((DR lm js).map (·.1)) pn.1 s bn G;refine AC<|Zx<|AQ<|Zq<|Zg ?_;have af:=X _ s G
  refine CQ (cs:=[(ib,.mapIter (some mi) ck seen2 ck),(mi,.map es ck)]) (by simp [af]) (JA W hi2 hpn Y) V rfl ?_;refine Zd Y V<|A3 Y<|A0<|Zm Y<|Zm Y<|Ze (GR (vs:=[_]) Y Y (cu) Wp) ?_;rintro _ _ ⟨_,⟨s',rfl,rfl,O⟩,rfl⟩;rw [show(DR lm js).map (·.1)++[pn.1]=(DR lm (js++[jn])).map (·.1) by rw [Fv lm js hpn,Bm];rfl]at O;refine Zv (Bo Y)<|A4<|AX Y (fun B=>by cases B)<|fun B=>AC<|A8<|Zn [0,5] ?_;refine Ab (e':=[]) (by exact ⟨js++[jn],seen2,s',V,⟨hi2,O⟩,V,V⟩)
 cases B
variable{M:List A9}
theorem RF(hm:Ck (fun n:Int=>(Value.int .i64) n) es ck lm)(hn:lm.length<=1000000)(b mi:Nat)(U:(mi,Obj.map es ck)∈M):BZ prog 247 #[.slice none 0 0,.func (.func 189) #[] #[I5 b]] [[(b,.cells #[.map (some mi)] 213 (0,0))],M] (fun r H'=>∃(zs:List Int) (s':List A9),zs.Perm (lm.map (·.1))/\Row 3 r (zs.map (Value.int .i64)) s'/\H'=[M,s']):=by
 have af:=mL;refine DL func247 V ntmps247 V ?_;intro u R;refine Zb [0,1] ?_;refine A0<|Ze (Bx #[_])<|AD fun Z=>A3 Y<|Zq<|A0<|Zm Y<|A4<|AQ<|Zb [2,6] ?_;refine BV<|Iy (H0:=_) (R:=_) (I:=(fun(pre:List Int) H=>∃B s2,H=[[(Z,.cells #[B] 36 (0,0))],s2,M]/\Row 3 B (pre.map (Value.int .i64)) s2)) (E:=fun x e Hn=>e=[(5,I4 x),(7,I4 x)]/\Hn=[]) rfl Y call189 (fH hm b mi) (fun pre H1 c d h=>by obtain ⟨B,s2,rfl,_⟩:=h;simp [U]) Y rfl Wp (⟨_,[],rfl,GU _⟩) ?ha_2 ?hbd_2 ?hk_2
 case ha_2=>
  intro _ x _ _;refine Zg<|AG Y<|Ll (e:=[(5,_),(7,_)]) (Hn:=[]) ?_;exact ⟨V,V⟩
 case hbd_2=>
  intro l pre x u e9 X H1 R1 r9 W hI J;obtain ⟨rfl,rfl⟩:=J;obtain ⟨B,s2,rfl,G⟩:=hI;have ax:=W.len
  obtain ⟨gv,cv,rfl⟩:=G.form;refine AQ<|Zg<|Zl cI Y ?_;refine Zm Y<|Ze (Aj (vs:=[_]) (cs:=[_]) D0 A5 H3 Y V rfl V rfl V)<|AD fun b2=>Ze (EZ (by_:=8) (news:=[_]) D0 (V:Tryz.prog.info? 3=some Tryz.t3) V rfl V rfl Y G Y Wo Wh AN V Fl AW (by(simp only [B2];omega)) (by(simp only [B2];omega))) ?_;rintro _ _ ⟨sq,m,rfl⟩;obtain ⟨gq,cq,rfl⟩:=m.form;refine Xe (Zs de Y Y V) ?_;refine Z0<|A8<|F3 rfl (by exact ⟨_,_,rfl,by rw [Bm];exact m⟩)
 intro D1 ys H2 O K;obtain ⟨B,s2,rfl,G⟩:=K;refine Zn [2] ?_;refine A8<|Zx<|A0<|Zl cI Y ?_;refine A3 Y<|AJ<|GI V (dK results247 Y) Wo (by exact ⟨ys,s2,O,G,V⟩)
theorem Ue(B:Ck (fun n:Int=>(Value.int .i64) n) es ck lm)(G:lm.length<=1000000)(b mi:Nat)(m:(mi,Obj.map es ck)∈M):BZ prog 187 #[.func (.func 189) #[] #[I5 b]] [[(b,.cells #[.map (some mi)] 213 (0,0))],M] (fun r H'=>∃(zs:List Int) (s':List A9),zs.Perm (lm.map (·.1))/\Row 3 r (zs.map (Value.int .i64)) s'/\H'=[M,s']):=by
 refine Se func187 ntmps187 [0] ?_;intro u R;refine A0<|A3 Y<|A0<|Zm Y<|Zc [_,_] Y call247 Y V (RF B G b mi m) ?_;rintro _ _ ⟨_,⟨zs,s2,I,J,rfl⟩,rfl⟩;refine A3 Y<|AJ<|AP V results187 Y (by exact ⟨zs,s2,I,J,V⟩)
theorem Wj(U:Ck (fun n:Int=>(Value.int .i64) n) es ck lm)(W:lm.length<=1000000)(b mi:Nat)(m:(mi,Obj.map es ck)∈M):BZ prog 113 #[.func (.func 189) #[] #[I5 b]] [[(b,.cells #[.map (some mi)] 213 (0,0))],M] (fun r H'=>∃(zs:List Int) (s':List A9),zs.Perm (lm.map (·.1))/\(zs.Pairwise fun x y=>x<=y)/\Row 3 r (zs.map (Value.int .i64)) s'/\H'=[M,s']):=by
 refine Se func113 ntmps113 [0] ?_;intro u R;refine A0<|A3 Y<|A0<|Zm Y<|Zc [_] Y call187 Y V (Ue U W b mi m) ?_;rintro _ _ ⟨_,⟨zs,s2,O,X,rfl⟩,rfl⟩;have J:=O.length_eq
 rw [B2]at J;refine A3 Y<|A0<|Zm Y<|Zc [_] Y call188 Y V (cK X A1) ?_;rintro _ _ ⟨_,⟨K,Z,rfl,B,I,G,rfl⟩,rfl⟩;refine A4<|A0<|Zm Y<|A3 Y<|AJ<|AP V results113 Y (by exact ⟨K,Z,B.trans O,I,G,V⟩)
end Go.Proofs.YteaiajghbkenoaaGreatDoor
