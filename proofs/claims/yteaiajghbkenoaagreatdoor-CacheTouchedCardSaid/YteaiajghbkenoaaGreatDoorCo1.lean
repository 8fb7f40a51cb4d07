/- Records encoded, in plain words; slices.Clone of changes. -/
/- Copies: changes, strings, paths. -/
/- ownRecord, ownEntry. -/
/- The index of queries: New, Add, Remove. -/
/- Intervals that contain a value. -/
/-
  The sort with a function lies in the program: laid at rows (printed by the kit, in plain words).
-/
/- Intervals sorted. -/
/- newIntervals. -/
/- What an index of intervals answers (plain). -/
/- make's two maps: families of rows. -/
/- query.Scan; make. -/
/- Which queries the loop of make has seen (plain). -/
/- The rows of a change; the numbers of queries near a change. -/
/- near: the numbers of queries near a change. -/
/- Rows read by membership (plain). -/
/- What make leaves (plain). -/
/- make. -/
/- What a change touches is near it (plain). -/
/- The keys of a map, sorted: int. -/
import Derived.Test.YteaiajghbkenoaaGreatDoorEz
import Derived.Test.YteaiajghbkenoaaGreatDoorPy5
import Derived.Test.YteaiajghbkenoaaGreatDoorEx36
import Derived.Test.YteaiajghbkenoaaGreatDoorQe3
import Derived.Test.YteaiajghbkenoaaGreatDoorTr6
import Derived.Test.YteaiajghbkenoaaGreatDoorQe1
import Derived.Shelf.SlSortCmp.WholeK
import Derived.Test.YteaiajghbkenoaaGreatDoorProg
import Derived.Test.YteaiajghbkenoaaGreatDoorDg4
import Derived.Test.YteaiajghbkenoaaGreatDoorLg9
import Derived.Test.YteaiajghbkenoaaGreatDoorPr3
import Derived.Test.YteaiajghbkenoaaGreatDoorLg4
import Derived.Test.YteaiajghbkenoaaGreatDoorEx5
set_option linter.unusedVariables false
set_option linter.unusedSimpArgs false
namespace Go.Proofs.YteaiajghbkenoaaGreatDoor
open Go.Proofs.Tryz
open Go Go.RowKit Gw
set_option maxRecDepth 100000
attribute [local irreducible] Gw.At Gw.Nx Gw.Ops
def fl1(c:Chg):Int:=if c.had then 1 else 0
def vs1(c:Chg):List Int:=if c.had then [c.o.a,c.o.b,c.o.c]else []
def fl2(c:Chg):Int:=if c.has then fl1 c+2 else fl1 c
def vs2(c:Chg):List Int:=if c.has then vs1 c++[c.n.a,c.n.b,c.n.c]else vs1 c
def sy(c:Chg):List UInt8:=Hl [c.t,c.k,fl2 c]++Hl (vs2 c)
def zH(p:Int)(cs:List Chg):List UInt8:=Hl [p,(cs.length:Int)]++cs.flatMap sy
variable{cs:List Chg}
theorem EG.mem{p:Int}(h:EG p cs):∀c∈cs,c.ok:=fun c hc=>by
 obtain ⟨i,hi⟩:=GW hc;exact h.all i c hi
variable{cap n:Nat}
theorem MI{sz:Nat}{e:TypeId}{g:Nat}{cur:Array Value}{z:Nat×Nat}{xs:List Value}(h:Bc sz e (I6 g n cap) n xs [(g,.cells cur e z)]){j:Nat}{u:Value}(G:xs[j]?=some u):cur[j]?=some u:=by
 obtain ⟨U,⟨m,_⟩|⟨K,I,J,W,m,h2,_,_,_,B,_⟩⟩:=h
 · cases m
 · injection m with m _ h3
   injection h2 with h2 _
   injection h2 with h4 h5
   injection h5 with h5 _ _
   subst h5;have O:=(BE.1 G).1
   rw [<-B,H3,AK A1]at G;simpa using G
variable{p:Option Addr}
theorem iL{sz:Nat}{e:TypeId}{xs:List Value}{s:List A9}(h:Bc sz e (.slice p n cap) n xs s)(h0:0<n):∃g cur z,p=some ⟨g,0,none⟩/\s=[(g,.cells cur e z)]/\IW z cur.size/\cur.size=cap*sz/\n<=cap/\cap<=maxLen:=by
 obtain ⟨O,⟨m,h2,_⟩|⟨g,B,cur,z,m,rfl,h2,G,I,K,J⟩⟩:=h
 · omega
 · injection m with m _ h7
   subst h7;exact ⟨g,cur,z,m,V,J,I,h2,G⟩
variable{M:List A9}
theorem gH(h:Ck M (.slice p n cap) cs):FK M p (Cg cs):=by
 obtain ⟨G,m,e,_,B⟩:=h;injection e with e1 e2 e3
 subst e1;exact Nk _ 10 (fun _=>rfl) AN fun i z hz=>B i z hz
theorem bR{ls:List Bs}(h:EU M (.slice p n cap) ls):FK M p (ls.map G8):=by
 obtain ⟨I,B,e,_,G⟩:=h;injection e with e1 e2 e3
 subst e1;intro j u m;rw [DH]at m;cases hs:ls[j]?with
 |none=>rw [hs]at m;cases m
 |some s=>rw [hs]at m;injection m with m;subst m;exact G j s hs
theorem oG(ls:List Bs):∀u∈ls.map G8,u.oneCell'=true:=by
 intro u m;obtain ⟨z,_,rfl⟩:=Bk.1 m;rfl
variable{ps:List (List Bs)}
theorem dR(h:M9 M (.slice p n cap) ps):∃m,Jn M m ps/\FK M p m/\∀u∈m,u.oneCell'=true:=by
 obtain ⟨p',af,e,_,hg⟩:=h;injection e with e1 e2 e3
 subst e1;have key:∀k,k<=ps.length->∃m:List Value,m.length=k/\∀(i:Nat) (l:List Bs),i<k->ps[i]?=some l->∃q c,m[i]?=some (.slice q l.length c)/\EU M (.slice q l.length c) l/\∃g off cur T zz,p=some ⟨g,off,none⟩/\(g,Obj.cells cur T zz)∈M/\cur[off+i]?=some (.slice q l.length c):=by
  intro k;induction k with
  |zero=>intro _;exact ⟨[],rfl,fun i l h=>absurd h (eA i)⟩
  |succ k ih=>
   intro hk;obtain ⟨m,O,h2⟩:=ih A1;obtain ⟨l,G⟩:∃l,ps[k]?=some l:=⟨_,B4 A1⟩;obtain ⟨q,c,I,W⟩:=hg k l G;refine ⟨m++[.slice q l.length c],by rw [B7,O];rfl,fun i l' hi B=>?_⟩;rcases EV i k with U|U
   · obtain ⟨q',c',X,Z⟩:=h2 i l' U B
     exact ⟨q',c',by rw [a8 A1];exact X,Z⟩
   · obtain rfl:i=k:=by omega
     rw [G]at B;injection B with B;subst B
     exact ⟨q,c,by rw [SJ A1,O];simp,I,W⟩
 obtain ⟨m,O,h2⟩:=key ps.length (CT _);refine ⟨m,⟨O,fun i v l hv G=>?_⟩,fun j u J=>?_,fun u J=>?_⟩
 · obtain ⟨q,c,I,W,_⟩:=h2 i l (BE.1 G).1 G
   rw [I]at hv;injection hv with hv;subst hv;exact W
 · have K:=(BE.1 J).1
   obtain ⟨l,G⟩:∃l,ps[j]?=some l:=⟨_,B4 A1⟩;obtain ⟨q,c,I,_,g,off,cur,T,zz,U,X,Z⟩:=h2 j l A1 G;rw [I]at J;injection J with J;subst J
   exact ⟨g,off,cur,T,zz,U,X,Z⟩
 · obtain ⟨j,K⟩:=GW J
   have ax:=(BE.1 K).1;obtain ⟨l,G⟩:∃l,ps[j]?=some l:=⟨_,B4 A1⟩;obtain ⟨q,c,I,_⟩:=h2 j l A1 G;rw [I]at K;injection K with K;subst K;rfl
def RP.fits(x:RP):Prop:=x.rows.length<=1000000/\x.paths.length<=1000000/\x.roots.length<=1000000/\∀l∈x.paths,l.length<=1000000
theorem WI(Z:List RPZ):(Z.flatMap Ee).length=Z.length*9:=by
 induction Z with
 |nil=>rfl
 |cons a l ih=>rw [HH,B7,ih];show 9+_=_;rw [DE];omega
variable{i:Nat}
theorem bC{A B:List RPZ}{z:RPZ}(m:A.length=i)(k:Nat)(G:k<9):((A++z::B).flatMap Ee)[i*9+k]?=(Ee z)[k]?:=by
 rw [OK,HH,SJ (by rw [WI];omega),WI,m,show i*9+k -i*9=k by omega,a8 (by exact G)]
theorem yI{A B:List RPZ}{z:RPZ}(I:A.length=i)(a b c:Option Addr)(m G c':Nat):
 ((((A++z::B).flatMap Ee).set (i*9+6) (.slice a z.x.rows.length m)).set (i*9+8) (.slice b z.x.roots.length G)).set (i*9+7) (.slice c z.x.paths.length c')=(A++[(⟨z.x,a,m,c,c',b,G⟩:RPZ)]++B).flatMap Ee:=by
 have e:∀(l:List Value) (k:Nat) (v:Value),(A.flatMap Ee++l).set (i*9+k) v=A.flatMap Ee++l.set k v:=fun l k v=>by
  rw [j1 _ _ (by rw [WI];omega),WI,I,show i*9+k -i*9=k by omega]
 rw [CA,OK,OK,HH,e,e,e];rfl
variable{v:Value}
theorem UZ(hv:Ck M v cs)(Z:cs.length<=1000000):Ba prog 108 #[v] [M] (fun r H'=>∃K,Bc 10 69 r cs.length (Cg cs) K/\H'=[K,M]):=by
 have W:=mL;have B:=hv
 obtain ⟨p,cap,rfl,hl,U⟩:=id hv;replace B:=gH B;refine Se func108 ntmps108 [0] ?_;intro u R;refine A0<|A3 Y<|Zq<|A0<|Zm Y<|Zv (Dk G3 Y Y)<|A4<|AV Y (fun J=>?_) (fun J=>?_)
 ·
  have G:p=none:=by cases p with
   |none=>rfl
   |some x=>cases J
  have h0:cs=[]:=by
   cases cs with
   |nil=>rfl
   |cons x l=>obtain ⟨g,off,cur,T,zz,I,_⟩:=U 0 x rfl;rw [G]at I;cases I
  refine Zq<|BV<|Zg<|A3 Y<|AJ<|Zt<|AO rfl results108 Y (by exact ⟨[],by rw [h0];exact Bf 10 _,rfl⟩)
 refine AC<|Zx<|A0<|Ze (EM G3 C1)<|AD fun O=>Zm Y<|Ze (H8 (by_:=80) (sz:=10) G3 (V:Tryz.prog.info? 69=some Tryz.t69) V rfl V rfl Y (II 10 69 O 0 [] V AN) Y (B) (by exact G5 _) AN Wo Wo (by exact PI _) A1 A1) ?_;rintro _ _ ⟨X,m,rfl⟩;replace m:=BR m (D2 _) (KK _);refine A3 Y<|AJ<|AO V results108 Y (by exact ⟨_,m,V⟩)
theorem Mt{ls:List Bs}(hv:EU M v ls)(Z:ls.length<=1000000):Ba prog 123 #[v] [M] (fun r H'=>∃K,Bc 1 9 r ls.length (ls.map G8) K/\H'=[K,M]):=by
 have W:=mL;have B:=hv
 obtain ⟨p,cap,rfl,hl,U⟩:=id hv;replace B:=bR B;refine Se func123 ntmps123 [0] ?_;intro u R;refine A0<|A3 Y<|Zq<|A0<|Zm Y<|Zv (Dk CN Y Y)<|A4<|AV Y (fun J=>?_) (fun J=>?_)
 ·
  have G:p=none:=by cases p with
   |none=>rfl
   |some x=>cases J
  have h0:ls=[]:=by
   cases ls with
   |nil=>rfl
   |cons x l=>obtain ⟨g,off,cur,T,zz,I,_⟩:=U 0 x rfl;rw [G]at I;cases I
  refine Zq<|BV<|Zg<|A3 Y<|AJ<|Zt<|AO rfl results123 Y (by exact ⟨[],by rw [h0];exact Bf 1 _,rfl⟩)
 refine AC<|Zx<|A0<|Ze (EM CN F0)<|AD fun O=>Zm Y<|Ze (H8 (by_:=16) (sz:=1) CN (V:Tryz.prog.info? 9=some Tryz.t9) V rfl V rfl Y (II 1 9 O 0 [] V AN) Y (B) (by(rw [B2,LS])) AN Wo Wo (by exact oG _) A1 A1) ?_;rintro _ _ ⟨X,m,rfl⟩;replace m:=BR m (D2 _) (KK _);refine A3 Y<|AJ<|AO V results123 Y (by exact ⟨_,m,V⟩)
theorem Sc(hv:M9 M v ps)(hb:ps.length<=1000000):Ba prog 124 #[v] [M] (fun r H'=>∃X B,Jn M B ps/\Bc 1 45 r ps.length B X/\H'=[X,M]):=by
 have ax:=mL;have G:=hv
 obtain ⟨p,cap,rfl,⟨hl,af⟩,hg⟩:=id hv;obtain ⟨B,J,G,I⟩:=dR G;have O:=J.1
 refine Se func124 ntmps124 [0] ?_;intro u R;refine A0<|A3 Y<|Zq<|A0<|Zm Y<|Zv (Dk L7 Y Y)<|A4<|AV Y (fun W=>?_) (fun W=>?_)
 ·
  have K:p=none:=by cases p with
   |none=>rfl
   |some x=>cases W
  have h0:ps=[]:=by
   cases ps with
   |nil=>rfl
   |cons x l=>obtain ⟨_,_,_,g,off,cur,T,zz,U,_⟩:=hg 0 x rfl;rw [K]at U;cases U
  refine Zq<|BV<|Zg<|A3 Y<|AJ<|Zt<|AO rfl results124 Y (by exact ⟨[],[],by rw [h0];exact Pw _,by rw [h0];exact Bf 1 _,rfl⟩)
 refine AC<|Zx<|A0<|Ze (EM L7 HF)<|AD fun Z=>Zm Y<|Ze (H8 (by_:=24) (sz:=1) L7 (V:Tryz.prog.info? 45=some Tryz.t45) V rfl V rfl Y (II 1 45 Z 0 [] V AN) Y (G) (by(rw [LS];exact O)) AN Wo Wo (by exact I) A1 A1) ?_;rintro _ _ ⟨bn,m,rfl⟩;replace m:=BR m (D2 _) (KK _);refine A3 Y<|AJ<|AO V results124 Y (by exact ⟨_,B,J,m,V⟩)
theorem dS{J s:List A9}{B:List Value}{k:Nat}{U:Value}{O:List Bs}(h:∀(j:Nat) (v:Value) (l:List Bs),B[j]?=some v->ps[j]?=some l->if j<k then EU J v l else EU M v l)(Z:B.length=ps.length)(hk:k<ps.length)(X:ps[k]?=some O)(W:EU s U O):
 ∀(j:Nat) (v:Value) (l:List Bs),(B.set k U)[j]?=some v->ps[j]?=some l->if j<k+1 then EU (s++J) v l else EU M v l:=by
 intro j v l hv m;rw [Sf]at hv;by_cases K:k=j
 · subst K
   rw [AK rfl,AK A1]at hv;injection hv with hv
   rw [X]at m;injection m with m
   subst hv m;rw [AK A1];exact W.mono fun c hc=>DS _ hc
 · rw [AH K]at hv
   have I:=h j v l hv m;by_cases G:j<k
   · rw [AK G]at I
     rw [AK A1];exact I.mono fun c hc=>G1 _ hc
   · rw [AH G]at I
     rw [AH A1];exact I
theorem mZ{α:Type}{l:List α}{x:α}(h:l[i]?=some x):l.drop i=x::l.drop (i+1):=by
 obtain ⟨m,h2⟩:=BE.1 h;rw [R0 m,h2]
theorem Qf(p:Int)(hv:Ck M v cs)(J:cs.length<=1000000):Ba prog 52 #[.agg #[I4 p,v]] [M] (fun r H'=>∃q cap s,r= .agg #[I4 p,.slice q cs.length cap]/\Ck s (.slice q cs.length cap) cs/\H'=[s,M]):=by
 have O:=mL;obtain ⟨U,m,rfl,K,_⟩:=id hv;refine Se func52 ntmps52 [0] ?_;intro u R;refine A0<|Ze (Bx #[I4 p,.slice U cs.length m])<|AD fun X=>Ze (Al Ss #[_,_])<|AD fun W=>A4<|A0<|Zh 1 GF V rfl Ks Y<|Zl Lq Y ?_;refine Zc [_] Y call108 Y V (UZ hv J) ?_;rintro _ _ ⟨_,⟨s1,I,rfl⟩,rfl⟩;obtain ⟨G,B,rfl⟩:=I.form;refine Zh 1 GF V rfl Ks Y<|Xe (Zs Ks Y Y V (hi:=by(simp;done))) ?_;refine A4<|A0<|Zo Wh (AA (cs:=#[I4 p,.slice G cs.length B]) Hc F2 Y As (by exact BN V)) ?_;refine Xe (BM F2 Y Y HR Wu (by exact EJ rfl) E7 AN (by exact BA _)) ?_;refine A4<|AJ<|Ct V results52 Y Wh (Ak Hc F2 Wn (BN V)) (by exact ⟨G,B,s1,V,QH I A1,V⟩)
set_option maxHeartbeats 1000000 in
theorem Qg(q:QM)(te base:Int){pg:Option Addr}{cg:Nat}{L:List RP}(hL:Fj M (.slice pg L.length cg) L)(wz:L.length<=1000000)(kv:∀x∈L,x.fits):Ba prog 66 #[.agg #[I4 q.kd,I4 q.tb,I4 q.cl,I4 q.lo,I4 q.hi,I4 q.bq,I4 q.ot,I4 te,I4 base,.slice pg L.length cg]] [M] (fun r H'=>∃pz cz s,r= .agg #[I4 q.kd,I4 q.tb,I4 q.cl,I4 q.lo,I4 q.hi,I4 q.bq,I4 q.ot,I4 te,I4 base,.slice pz L.length cz]/\Fj s (.slice pz L.length cz) L/\H'=[s,M]):=by
 have zf:=mL;obtain ⟨Z,hZ,cO⟩:=id hL;have j5:Z.length=L.length:=by rw [<-cO,B2]
 obtain ⟨p9,vo,e9,_,sj⟩:=id hZ;injection e9 with e91 e92 e93
 subst e91 e93;have pq:∀(i:Nat) (z:RPZ),Z[i]?=some z->z.ok M/\z.x.fits:=fun i z hz=>⟨(sj i z hz).1,kv _ (by rw [<-cO];exact DM (DG hz))⟩
 refine Se func66 ntmps66 [0] ?_;intro u R;refine A0<|Ze (Bx #[I4 q.kd,I4 q.tb,I4 q.cl,I4 q.lo,I4 q.hi,I4 q.bq,I4 q.ot,I4 te,I4 base,.slice pg L.length cg])<|AD fun be=>Ze (FC cW (cs:=#[I4 0,I4 0,I4 0,I4 0,I4 0,I4 0,I4 0,I4 0,I4 0,.slice none 0 0]) A6)<|AD fun bo=>A4<|A0<|Zh 9 FG V rfl Mb Y<|Zl S8 Y ?_;refine Zc [_] Y call118 Y V (L9 hZ A1) ?_;rintro _ _ ⟨_,⟨s1,h1,rfl⟩,rfl⟩;obtain ⟨pz,cz,rfl⟩:=h1.form;refine Zh 9 FG V rfl Mb Y<|Xe (Zs Mb Y Y V (hi:=by(simp;done))) ?_;refine A4<|Zq<|Zq<|BV<|Zg<|Zh 9 FG V rfl Mb Y<|Zl S8 Y ?_;refine Zv (Ab To Y)<|Zm Y<|A4<|AP<|Zb [13,1,2,12] ?_;refine BB (e0:=[(13,_)]) (fun m e H=>∃(i:Nat) (W:List RPZ) (sz MM:List A9),m=Z.length -i/\((i<=Z.length/\W.length=i)/\Bc 9 152 (.slice pz Z.length cz) Z.length ((W++Z.drop i).flatMap Ee) sz/\(∀z∈W,z.ok MM)/\W.map RPZ.x=(Z.take i).map RPZ.x)/\e=[(13,I4 (i:Int))]/\H=[sz,MM]) (by exact ⟨0,[],s1,[],V,⟨⟨C0 _,V⟩,h1,fun z hz=>absurd hz B0,V⟩,V,V⟩) Wp ?_;rintro _ _ _ ⟨i,W,sz,MM,rfl,⟨⟨hi,K⟩,G,af,gm⟩,rfl,rfl⟩;refine Zq<|BV<|Zg<|Zv (Au Y Y)<|A4<|Zq<|Av Y (fun r9=>?_) (fun r9=>?_)
 ·
  obtain ⟨z,hz⟩:∃z,Z[i]?=some z:=⟨_,B4 A1⟩;obtain ⟨⟨sJ,sw,sM⟩,yt,q9,qa,qb⟩:=pq i z hz;rw [mZ hz]at G;obtain ⟨g,cur,zz,rfl,rfl,d9,y9,zb,y5⟩:=iL G A1;have za:i*9+9<=cur.size:=by omega
  have qj:=MI G (bC (B:=Z.drop (i+1)) K 6 AN);have qo:=MI G (bC (B:=Z.drop (i+1)) K 7 AN)
  have qw:=MI G (bC (B:=Z.drop (i+1)) K 8 AN);refine AC<|Zx<|Zq<|AP<|Zq<|BV<|Zg<|Zm Y<|A3 Y<|A0<|Zh 9 FG V rfl Mb Y<|Zl S8 Y ?_;refine Zm Y<|BX (Ad To Kf Y Y A1)<|A3 Y<|Zq<|Az (n:=27) (0::0::0::0::8::24::56::120::0::256::768::1792::4088::0::8192::24576::57344::131064::262137::524281::1048569::2097147::4194299::8388603::16777215::33554431::67108863::[]) 76681344 A6 A6 rfl<|A2 0 rfl (AQ Y)<|A2 1 rfl (AQ Y)<|A2 2 rfl (AQ Y)<|A2 3 rfl (AQ Y)<|A2 4 rfl (Ap Y rfl)<|A2 5 rfl (Aq (off:=6) D4 rfl rfl C5 Y)<|B3 6 rfl Fl Y (hv:=by exact (by rw [D2];exact qj)) ?_;refine A2 8 rfl (AQ Y)<|A2 9 rfl (Ap Y rfl)<|A2 10 rfl (Aq (off:=8) D4 rfl rfl HF Y)<|B3 11 rfl KB Y (hv:=by exact (by rw [D2];exact qw)) ?_;refine A2 13 rfl (AQ Y)<|A2 14 rfl (Ap Y rfl)<|A2 15 rfl (Aq (off:=7) D4 rfl rfl K1 Y)<|B3 16 rfl isAgg150 Y (hv:=by exact (by rw [D2];exact qo)) ?_;refine Zz (l:=[7])<|B1 [true,true,false] [(16,(_,_)),(11,(_,_))] V rfl (Zw [_] Y call109 Y V (Gd sJ A1)) ?_ Bv Ag;rintro _ _ ⟨_,⟨sr,o8,rfl⟩,rfl⟩;refine ⟨Zk (Zk (AZ)),?_⟩;obtain ⟨qr,cr,rfl⟩:=o8.form;refine Zz (l:=[12])<|B1 [true,false] [(16,(_,_))] V rfl (Zw [_] Y call123 Y V (Mt sM qa)) ?_ Bv Ag;rintro _ _ ⟨_,⟨st,o9,rfl⟩,rfl⟩;refine ⟨Zk (AZ),?_⟩;obtain ⟨qt,ct,rfl⟩:=o9.form;refine Zz (l:=[17])<|B1 [false] [] V rfl (Zw [_] Y call124 Y V (Sc sw q9)) ?_ Bv Ag;rintro _ _ ⟨_,⟨ve,sO,ax,bn,rfl⟩,rfl⟩;refine ⟨AZ,?_⟩;obtain ⟨qp,cp,rfl⟩:=bn.form;refine A2 18 V (Ap Y V)<|A2 19 V (Aq (off:=6) D4 V rfl C5 Y)<|Zz (l:=[20])<|B1 [] [] V rfl (Zs C5 Y Y V (hi:=by omega) (hz:=by exact d9)) ?_ (fun _ _ h=>h.elim) Ag;rintro _ _ ⟨rfl,rfl⟩;refine B5<|A2 21 V (Ap Y V)<|A2 22 V (Aq (off:=8) D4 V rfl HF Y)<|Zz (l:=[23])<|B1 [] [] V rfl (Zs HF Y Y V (hi:=by(simp;omega)) (hz:=by(simp only [SM];exact d9))) ?_ (fun _ _ h=>h.elim) Ag;rintro _ _ ⟨rfl,rfl⟩
  refine B5<|A2 24 V (Ap Y V)<|A2 25 V (Aq (off:=7) D4 V rfl K1 Y)<|Zz (l:=[26])<|B1 [] [] V rfl (Zs K1 Y Y V (hi:=by(simp;omega)) (hz:=by(simp only [SM];exact d9))) ?_ (fun _ _ h=>h.elim) Ag;rintro _ _ ⟨rfl,rfl⟩;refine B5<|Ai<|Zn [1,2,4,12,13] ?_;refine Zx<|Zq ?_;have h7:(((cur.setIfInBounds (0+i*9+6) (.slice qr z.x.rows.length cr)).setIfInBounds (0+i*9+8) (.slice qt z.x.roots.length ct)).setIfInBounds (0+i*9+7) (.slice qp z.x.paths.length cp))[0+i*9+7]?=some (.slice qp z.x.paths.length cp):=by
   rw [fX,AK rfl,AK (by simp only [SM];omega)]
  obtain ⟨ic,I⟩:∃c,c=(((cur.setIfInBounds (0+i*9+6) (.slice qr z.x.rows.length cr)).setIfInBounds (0+i*9+8) (.slice qt z.x.roots.length ct)).setIfInBounds (0+i*9+7) (.slice qp z.x.paths.length cp)):=⟨_,rfl⟩;rw [<-I]at h7⊢;refine Zg<|Zm Y<|Zp Y V<|Zv (Aq (off:=7) D4 V rfl K1 Y)<|Zl isAgg150 Y (hv:=by exact h7) ?_;refine Zv (Ab L7 Y)<|Zm Y<|A4<|AP<|BV<|Zb [49,1,2,4,12,13,48] ?_;refine BB (e0:=[(49,_)]) (fun m e H=>∃(k:Nat) (O:List Value) (sp U:List A9),m=z.x.paths.length -k/\((k<=z.x.paths.length/\O.length=z.x.paths.length)/\Bc 1 45 (.slice qp z.x.paths.length cp) z.x.paths.length O sp/\(∀(j:Nat) (v:Value) (l:List Bs),O[j]?=some v->z.x.paths[j]?=some l->if j<k then EU U v l else EU M v l))/\e=[(49,I4 (k:Int))]/\H=[sp,U]) (by exact ⟨0,sO,ve,[],rfl,⟨⟨C0 _,ax.1⟩,bn,fun j v l hv hl=>by rw [AH (eA j)];exact ax.2 j v l hv hl⟩,rfl,rfl⟩) Wp ?_;rintro _ _ _ ⟨k,O,sp,U,rfl,⟨⟨hk,gq⟩,X,gy⟩,rfl,rfl⟩;refine A0<|Zv (Au Y Y)<|A4<|Zq<|Av Y (fun ek=>?_) (fun ek=>?_)
  ·
   obtain ⟨l,hl⟩:∃l,z.x.paths[k]?=some l:=⟨_,B4 ek⟩;have qz:=qb l (DG hl)
   obtain ⟨v0,p8⟩:∃v,O[k]?=some v:=⟨_,B4 A1⟩;obtain ⟨gp,j3,zp,rfl,rfl,l5,vz,wo,vw⟩:=iL X A1;have qx:=MI X p8
   have cu:=gy k v0 l p8 hl;rw [AH (Nat.lt_irrefl k)]at cu;refine AC<|Zx<|Zq<|AP<|A0<|Zm Y<|A3 Y<|Az (n:=15) (0::1::3::7::0::0::32::96::224::0::992::2016::4064::8191::16383::[]) 20480 A6 A6 V<|A2 0 V (AQ Y)<|A2 1 V (Ap Y V)<|A2 2 V (Aq (off:=7) D4 V rfl K1 Y)<|B3 3 V isAgg150 Y (hv:=by exact h7) ?_;refine A2 4 V (AQ Y)<|A2 5 V (AQ Y)<|A2 6 V (Ap Y V)<|A2 7 V (Aq (off:=7) D4 V rfl K1 Y)<|B3 8 V isAgg150 Y (hv:=by exact h7) ?_;refine A2 9 rfl (AQ Y)<|A2 10 rfl (BS L7 HF Y Y (by first|omega|(simp;omega)))<|B3 11 rfl KB Y (hv:=by exact (by exact qx)) ?_;refine Zz (l:=[12])<|B1 [false,false,true] [(3,(_,_))] V rfl (Zw [_] Y call123 Y V (Mt cu qz)) ?_ Bv Ag;rintro _ _ ⟨_,⟨sl,l9,rfl⟩,rfl⟩;refine ⟨Zk (AZ),?_⟩;obtain ⟨ql,cl,rfl⟩:=l9.form;refine A2 13 rfl (BS L7 HF Y Y (by first|omega|(simp;omega)))<|Yw 14 32767 rfl (Zs HF Y Y rfl (hi:=by omega) (hz:=by exact l5))<|CM<|Ai<|Zn [1,2,4,12,13,48,49] ?_;refine A8<|Zx<|CK (s1:=sl) (s2:=U) Wo Wo ?_;refine Zg<|Ya (n:=1) Y Y<|Zm Y<|Z0<|Zn [49,1,2,4,12,13,48] ?_;refine Aa (e':=[(49,_)]) (by exact ⟨k+1,O.set k (.slice ql l.length cl),[(gp,.cells (j3.setIfInBounds k (.slice ql l.length cl)) 45 zp)],sl++U,rfl,⟨⟨by omega,by rw [cM];exact gq⟩,OY X k _,dS gy gq ek hl (Ga l9 A1)⟩,rfl,rfl⟩)
  obtain rfl:k=z.x.paths.length:=by omega
  refine Ay<|Zt<|Zt<|AR<|A8<|Zx<|CK (s1:=U) (s2:=st) Wo Wo ?_;refine CK (s1:=sp) (s2:=(U++st)) Wo Wo ?_;refine CK (s1:=sr) (s2:=(sp++(U++st))) Wo Wo ?_;refine CK (s1:=(sr++(sp++(U++st)))) (s2:=MM) Wo Wo ?_;have l8:RPZ.ok (sr++(sp++(U++st))) ⟨z.x,qr,cr,qp,cp,qt,ct⟩:=⟨(DT o8 A1).mono (fun c hc=>DS _ hc),(VN X ⟨gq,fun j v l hv hl=>by
   have h9:=gy j v l hv hl;rwa [AK (BE.1 hl).1]at h9⟩ A1).mono (fun c hc=>by rcases B9.1 hc with h9|h9<;>simp [h9]),(Ga o9 A1).mono (fun c hc=>by simp [hc])⟩
  have J:=OY (OY (OY G (i*9+6) (.slice qr z.x.rows.length cr)) (i*9+8) (.slice qt z.x.roots.length ct)) (i*9+7) (.slice qp z.x.paths.length cp);rw [yI K]at J;simp only [D2]at I;rw [<-I]at J;refine Zg<|Ya (n:=1) Y Y<|Zm Y<|Z0<|Zn [13,1,2,12] ?_;refine Aa (e':=[(13,_)]) (by
   exact ⟨i+1,W++[⟨z.x,qr,cr,qp,cp,qt,ct⟩],[(g,.cells ic 152 zz)],sr++(sp++(U++st))++MM,rfl,⟨⟨by omega,by rw [B7,K];rfl⟩,J,fun y hy=>by
    rcases B9.1 hy with hy|hy
    · exact (af y hy).mono (fun c hc=>G1 _ hc)
    · rw [BT.1 hy];exact l8.mono (fun c hc=>DS _ hc),by rw [BW,gm,Bh hz,BW];rfl⟩,rfl,rfl⟩)
 obtain rfl:i=Z.length:=by omega
 refine Ay<|Zt<|Zt<|AR<|Zx<|Zq ?_;rw [show W++Z.drop Z.length=W by rw [fz,Cp]]at G;rw [FF]at gm;refine CK (s1:=sz) (s2:=MM) Wo Wo ?_;refine Zg<|Zo Wh (AA (cs:=#[I4 q.kd,I4 q.tb,I4 q.cl,I4 q.lo,I4 q.hi,I4 q.bq,I4 q.ot,I4 te,I4 base,.slice pz Z.length cz]) T0 H4 Y As (by exact BN V)) ?_;refine Xe (BM H4 Y Y HR Wu (by exact EJ rfl) E7 AN (by exact BA _)) ?_;refine A4<|AJ<|Ct rfl results66 Y Wh (Ak T0 H4 Wn (BN rfl)) (by exact ⟨pz,cz,sz++MM,by rw [j5],⟨W,WH (by rw [K,<-j5];exact G) A1 af,by rw [gm];exact cO⟩,rfl⟩)
structure Ed(qs:List (Int×QM))(es:Array MapEntry)(ck:Nat)(lm:List (Int×Value)):Prop where
 map:Cj (fun n:Int=>Value.int .i64 n) es ck lm
 mem:∀p,p∈lm↔∃x∈qs,p=(x.1,(.agg #[I4 x.2.kd,I4 x.2.tb,I4 x.2.cl,I4 x.2.lo,I4 x.2.hi,I4 x.2.bq,I4 x.2.ot]:Value))
 ids:(qs.map (·.1)).Nodup
theorem OA{β:Type}(p:β×Value)(k:β)(v v0:Value){A:Prop}:(p=(k,v)\/((p=(k,v0)\/(A/\p.1≠k))/\p.1≠k))↔(p=(k,v)\/(A/\p.1≠k)):=by
 constructor
 · rintro (h|⟨h|⟨h,_⟩,hn⟩)
   · exact .inl h
   · exact absurd (by rw [h]) hn
   · exact .inr ⟨h,hn⟩
 · rintro (h|⟨h,hn⟩)
   · exact .inl h
   · exact .inr ⟨.inr ⟨h,hn⟩,hn⟩
theorem lg:Ed [] #[] 0 []:=⟨ER _,fun p=>by simp,kh⟩
theorem Ed.none{qs:List (Int×QM)}{es:Array MapEntry}{ck:Nat}{lm:List (Int×Value)}(h:Ed qs es ck lm){id:Int}(m:∀x∈qs,x.1≠id):EF id lm=none:=DV fun p B=>by
 obtain ⟨x,G,rfl⟩:=(h.mem p).1 B;exact m x G
variable{qs:List (Int×QM)}{es:Array MapEntry}{ck:Nat}{lm:List (Int×Value)}
theorem Ed.get(h:Ed qs es ck lm){x:Int×QM}(m:x∈qs):EF x.1 lm=some (.agg #[I4 x.2.kd,I4 x.2.tb,I4 x.2.cl,I4 x.2.lo,I4 x.2.hi,I4 x.2.bq,I4 x.2.ot]:Value):=Cw h.map.keys ((h.mem _).2 ⟨x,m,rfl⟩)
theorem Ed.len(h:Ed qs es ck lm):lm.length=qs.length:=by
 have G:(lm.map (·.1)).Perm (qs.map (·.1)):=(NX h.map.keys h.ids).2 fun a=>by
  constructor
  · intro m
    obtain ⟨p,I,rfl⟩:=Bk.1 m;obtain ⟨x,B,rfl⟩:=(h.mem p).1 I;exact DM B
  · intro m
    obtain ⟨x,B,rfl⟩:=Bk.1 m;exact Bk.2 ⟨_,(h.mem _).2 ⟨x,B,V⟩,V⟩
 have:=G.length_eq;simpa using this
theorem lq(h:Ed qs es ck lm){id:Int}{q:QM}(J:∀x∈qs,x.1≠id){I:Array MapEntry}{G:Nat}{B:List (Int×Value)}(U:Cj (fun n:Int=>Value.int .i64 n) I G B)
 (W:∀p,p∈B↔p=(id,(.agg q.A17:Value))\/(p∈lm/\p.1≠id)):Ed (qs++[(id,q)]) I G B:=by
 refine ⟨U,fun p=>?_,?_⟩
 · rw [W,h.mem]
   constructor
   · rintro (rfl|⟨⟨x,m,rfl⟩,_⟩)
     · exact ⟨(id,q),by simp,rfl⟩
     · exact ⟨x,DS _ m,rfl⟩
   · rintro ⟨x,m,rfl⟩
     rcases B9.1 m with m|m
     · exact .inr ⟨⟨x,m,rfl⟩,J x m⟩
     · rw [BT.1 m];exact .inl rfl
 · rw [BW,Ge]
   refine ⟨h.ids,by simp,fun a K b O=>?_⟩;obtain ⟨x,m,rfl⟩:=Bk.1 K;obtain rfl:=BT.1 O;exact J x m
theorem ll(h:Ed qs es ck lm)(id:Int){G:Array MapEntry}{B:Nat}{m:List (Int×Value)}(K:Cj (fun n:Int=>Value.int .i64 n) G B m)(U:∀p,p∈m↔p∈lm/\p.1≠id):Ed (qs.filter fun x=>x.1≠id) G B m:=by
 refine ⟨K,fun p=>?_,(h.ids.sublist ((SU).map _))⟩;rw [U,h.mem];constructor
 · rintro ⟨⟨x,I,rfl⟩,O⟩
   exact ⟨x,F1.2 ⟨I,by simpa using O⟩,V⟩
 · rintro ⟨x,I,rfl⟩
   obtain ⟨J,h2⟩:=F1.1 I;exact ⟨⟨x,J,V⟩,by simpa using h2⟩
theorem jO:Ba prog 43 #[] [] (fun r H'=>∃m mq,r=I5 m/\H'=[[(m,.cells #[.map (some mq),.pointer none] 186 (0,0))],[(mq,.map #[] 0)]]):=by
 refine Se func43 ntmps43 [] ?_;intro u R;refine A0<|A3 Y<|A0<|Ze (DR)<|AD fun mq=>Zv (BK (vs:=[(0,_)]) (cs:=#[_,_]) Y (AY (pl:=#[(0,1),(1,1)]) zeroValue186 PF (fun _=>by kernel_rfl) V))<|Ze (Bx #[_,_])<|AD fun m=>A3 Y<|AJ<|AO V results43 Y (by exact ⟨m,mq,V,V⟩)
variable{lv:Value}
theorem WJ{J mq:Nat}(m:Ed qs es ck lm){x:Int×QM}(hx:x∈qs):Ba prog 98 #[I5 J,I4 x.1] [[(J,.cells #[.map (some mq),lv] 186 (0,0))],[(mq,.map es ck)]] (fun r H'=>∃G B X,r= .bool true/\Ed (qs.filter fun y=>y.1≠x.1) G B X/\H'=[[(J,.cells #[.map (some mq),.pointer none] 186 (0,0))],[(mq,.map G B)]]):=by
 have hg:=m.get hx;refine Se func98 ntmps98 [0,1] ?_;intro u R;refine A0<|A3 Y<|Zq<|A0<|Zm Y<|Zv (Be underlying116 Y Y)<|A4<|AV Y (fun I=>by cases I)<|fun I=>AC<|Zx<|A0<|Zm Y<|Zp Y V<|Zh 0 PF V rfl db Y<|Zl dd Y ?_;refine Zm Y<|Zo Wh (Dy (CX Cl (D:=fun _=>True)) cS MY m.map (fun _ _=>trivial) (trivial) (⟨by rw [hg];first|done|rfl,by rw [hg];first|done|rfl⟩) Y Y) ?_;refine Zm Y<|Zd Y V<|Zd Y V<|Ze (Al MY #[_,_,_,_,_,_,_])<|AD fun b1=>Xe (Xw C7 _) ?_;refine AG Y<|Zn [0,1,6] ?_;refine Zx<|A0<|Zm Y<|Zp Y V<|Zh 0 PF V rfl db Y<|Zl dd Y ?_;refine Zm Y<|Ze (LF (CX Cl (D:=fun _=>True)) cS m.map (fun _ _=>trivial) (trivial) Y Y Wo) ?_;rintro _ _ ⟨rfl,O,K,Z,U,W,rfl⟩;refine A4<|A0<|Zm Y<|Zp Y V<|Zh 1 PF V rfl Z2 Y<|Xe (Zs Z2 Y Y V) ?_;refine A4<|A0<|Zm Y<|A3 Y<|AJ<|AO V results98 Y (by exact ⟨O,K,Z,V,ll m _ U W,V⟩)
theorem jP{K mq:Nat}(m:Ed qs es ck lm){id:Int}(J:∀x∈qs,x.1≠id){q:QM}(hq:BI q)(hl:qs.length<500):Ba prog 99 #[I5 K,I4 id,(.agg q.A17:Value)] [[(K,.cells #[.map (some mq),lv] 186 (0,0))],[(mq,.map es ck)]] (fun r H'=>∃G B cO,r=I4 0/\Ed (qs++[(id,q)]) G B cO/\H'=[[(K,.cells #[.map (some mq),.pointer none] 186 (0,0))],[(mq,.map G B)]]):=by
 have X:=m.none J;have gq:=m.len
 refine Se func99 ntmps99 [0,1,2] ?_;intro u R;refine A0<|Ze (Bx #[_,_,_,_,_,_,_])<|AD fun b1=>A3 Y<|Zq<|A0<|Zm Y<|Zv (Be underlying116 Y Y)<|A4<|AV Y (fun I=>by cases I)<|fun I=>AC<|Zx<|Zq<|A0<|Zm Y<|Zp Y V<|Zh 0 PF V rfl db Y<|Zl dd Y ?_;refine Zm Y<|Zo Wh (Dy (CX Cl (D:=fun _=>True)) cS MY m.map (fun _ _=>trivial) (trivial) (⟨by rw [X];first|done|rfl,by rw [X];first|done|rfl⟩) Y Y) ?_;refine Zm Y<|Zd Y V<|Zd Y V<|Ze (Al MY #[_,_,_,_,_,_,_])<|AD fun b2=>Xe (Xw C7 _) ?_;refine AG Y<|Zn [0,1,5,8] ?_;refine Zx<|A0<|Zm Y<|Zm Y<|Af (t:=21) Y V (fun g1=>by cases g1)<|fun g1=>E5 Y Wh (Pa #[_,_,_,_,_,_,_] Dg C7 Y) V rfl ?_;refine Xr [_] Y call34 Y V (JW q) ?_;rw [DA hq];refine Yg (Br Y)<|Zv (AL Y Y)<|Zm Y<|Af (t:=26) Y V (fun g2=>by cases g2)<|fun g2=>Zf Y Y<|Yg (Ap Y V)<|Yf 0 PF V rfl db Y<|Yl dd Y ?_;refine E5 Y Wh (Q5 cS m.map Y) V rfl ?_;refine Yg (Fw (n:=500) Y Y)<|Zv (AL Y Y)<|Z0<|Zn [0,1,5,33] ?_;refine Zx<|Av Y (fun h8=>by omega)<|fun h8=>AC<|Zx<|Zq<|Az (n:=13) (0::1::3::7::0::0::0::31::159::479::1023::2047::4095::[]) 4736 A6 A6 V<|A2 0 V (AQ Y)<|A2 1 V (Ap Y V)<|A2 2 V (AB (off:=0) PF V rfl db Y)<|B3 3 V dd Y ?_;refine A2 4 V (AQ Y)<|A2 5 V (AQ Y)<|E6 6 V Wh (Pa #[_,_,_,_,_,_,_] Dg C7 Y) ?_;refine Yz 7 31 255 [6,3] [true,false] [(6,(_,_))] rfl Y rfl rfl rfl rfl (KQ (CX Cl (D:=fun _=>True)) cS MY m.map (fun _ _=>trivial) (trivial) (by rw [X];first|done|rfl) Y Y Wo) ?_;rintro _ _ ⟨gm,ek,gy,j3,ic,rfl,af,Z,W,bn,rfl⟩;refine B5<|A2 8 V (Bw Y V)<|Zz (l:=[9])<|B1 [false] [] V rfl (Il af Z W Y Y Y Wo) ?_ (fun _ _ h=>h.elim) Ag;rintro _ _ ⟨rfl,U,O,d9,ax,cu,rfl⟩;refine B5<|A2 10 V (Ap Y V)<|A2 11 V (AB (off:=1) PF V rfl Z2 Y)<|Zz (l:=[12])<|B1 [] [] V rfl (Zs Z2 Y Y V) ?_ (fun _ _ h=>h.elim) Ag;rintro _ _ ⟨rfl,rfl⟩;refine B5<|Ai<|Zn [] ?_;refine Zx<|A0<|A3 Y<|AJ<|AO rfl results99 Y (by exact ⟨U,O,d9,rfl,lq m J ax (fun p=>by rw [cu,bn];exact OA _ _ _ _),rfl⟩)
structure IvM where
 lo:Int
 hi:Int
 rc:Int
 id:Int
deriving Inhabited
def UA(M:List A9)(v:Value)(l:List IvM):Prop:=∃p cap,v= .slice p l.length cap/\(l.length<=maxLen/\l.length<=cap)/\∀(i:Nat) (x:IvM),l[i]?=some x->∃g off cur T zz,p=some ⟨g,off,none⟩/\(g,Obj.cells cur T zz)∈M/\off+i*4+4<=cur.size/\cur.extract (off+i*4) (off+i*4+4)=#[I4 x.lo,I4 x.hi,I4 x.rc,I4 x.id]
variable{l:List IvM}
theorem UA.mono{m:List A9}(h:UA M v l)(K:∀c∈M,c∈m):UA m v l:=by
 obtain ⟨p,cap,e,J,I⟩:=h;refine ⟨p,cap,e,J,fun i x O=>?_⟩;obtain ⟨g,off,cur,T,zz,B,h2,G⟩:=I i x O;exact ⟨g,off,cur,T,zz,B,K _ h2,G⟩
theorem UA.take(h:UA M (.slice p l.length cap) l){k:Nat}(I:k<=l.length):UA M (.slice p k cap) (l.take k):=by
 obtain ⟨K,B,e,J,G⟩:=h;injection e with e1 e2 e3
 subst e1 e3;refine ⟨p,cap,by rw [C2,PB I],by rw [C2];omega,fun i x m=>G i x ?_⟩;rw [H3]at m;split at m
 · exact m
 · cases m
def gB(a b:Int):Int:=if a<b then-1 else if b<a then 1 else 0
theorem aS(a b:Int):gB a b<0↔a<b:=by
 unfold gB;split
 · exact ⟨fun _=>by assumption,fun _=>by decide⟩
 · split
   · exact ⟨fun h=>absurd h AN,fun h=>by omega⟩
   · exact ⟨fun h=>absurd h AN,fun h=>by omega⟩
theorem OC{α:Type}(p:α->Bool):∀{l:List α} {e:Nat},e<=l.length->(∀(k:Nat) (x:α),k<e->l[k]?=some x->p x=true)->(∀(k:Nat) (x:α),e<=k->l[k]?=some x->p x=false)->l.takeWhile p=l.take e
 |[],e,_,_,_=>by simp
 |x::l,0,_,_,h2=>by rw [ON,AH (by rw [h2 0 x (CT _) rfl];decide),HX]
 |x::l,e+1,he,h1,h2=>by
  rw [ON,AK (h1 0 x A1 rfl),jj,OC p (by simpa using he) (fun k y B m=>h1 (k+1) y A1 m) (fun k y B m=>h2 (k+1) y A1 m)]
def Ii(v:Int)(l:List IvM):List Int:=(((l.takeWhile fun x=>decide (x.lo<=v)).reverse.takeWhile fun x=>decide (v<=x.rc)).filter fun x=>decide (v<=x.hi)).map (·.id)
def N7(v:Int)(l:List (Nat×IvM)):List Int:=((l.map (·.2)).filter fun x=>decide (v<=x.hi)).map (·.id)
theorem Sb(v:Int)(l:List (Nat×IvM))(x:Nat×IvM):N7 v (l++[x])=N7 v l++(if v<=x.2.hi then [x.2.id]else []):=by
 unfold N7;rw [BW,HU,BW];congr 1;by_cases h:v<=x.2.hi
 · rw [AK h];simp [h]
 · rw [AH h];simp [h]
theorem Ms{α:Type}(p:α->Bool):∀{l:List α},(∀x∈l,p x=true)->l.takeWhile p=l
 |[],_=>rfl
 |x::l,h=>by rw [ON,AK (h x (Dd ..)),Ms p fun y m=>h y (E3 _ m)]
theorem LJ{α:Type}(p:α->Bool){x:α}(B:p x=false)(m:List α):∀{l:List α},(∀y∈l,p y=true)->(l++x::m).takeWhile p=l
 |[],_=>by rw [KK,ON,AH (by rw [B];decide)]
 |y::l,h=>by rw [P2,ON,AK (h y (Dd ..)),LJ p B m fun z hz=>h z (E3 _ hz)]
variable{e:Nat}
theorem u7{v:Int}(B:l.takeWhile (fun x=>decide (x.lo<=v))=l.take e)(h:∀y∈bwd (l.take e),v<=y.2.rc):N7 v (bwd (l.take e))=Ii v l:=by
 unfold N7 Ii;rw [B,Mh,Ms];intro x m;rw [<-Mh]at m;obtain ⟨y,G,rfl⟩:=Bk.1 m;exact DA (h y G)
theorem nA{v:Int}(G:l.takeWhile (fun x=>decide (x.lo<=v))=l.take e){pre m:List (Nat×IvM)}{x:Nat×IvM}(B:bwd (l.take e)=pre++x::m)(h:∀y∈pre,v<=y.2.rc)(I:x.2.rc<v):N7 v pre=Ii v l:=by
 unfold N7 Ii;rw [G,<-Mh,B,BW,DO,LJ _ (by simpa using I)];intro z hz;obtain ⟨y,J,rfl⟩:=Bk.1 hz;exact DA (h y J)
theorem fw{v:Int}(U:l.takeWhile (fun x=>decide (x.lo<=v))=l.take e){pre m:List (Nat×IvM)}{x:Nat×IvM}(O:bwd (l.take e)=pre++x::m)(h:∀y∈pre++[x],v<=y.2.rc)(W:v<=x.2.hi):∃G,Ii v l=N7 v pre++x.2.id::G:=by
 unfold N7 Ii;have K:∀{A:List IvM} {B:List IvM},(∀y∈A,decide (v<=y.rc)=true)->∃C,(A++B).takeWhile (fun x=>decide (v<=x.rc))=A++C:=fun{A B} hA=>by
  induction A with
  |nil=>exact ⟨_,rfl⟩
  |cons a A ih=>
   obtain ⟨C,I⟩:=ih fun y J=>hA y (E3 _ J);exact ⟨C,by rw [P2,ON,AK (hA a (Dd ..)),I,P2]⟩
 rw [U,<-Mh,O,show pre++x::m=(pre++[x])++m by simp,BW];obtain ⟨C,I⟩:=K (A:=(pre++[x]).map Prod.snd) (B:=m.map Prod.snd) fun z hz=>by
  obtain ⟨y,J,rfl⟩:=Bk.1 hz;exact DA (h y J)
 rw [I,BW,HU,HU,BW,BW];refine ⟨(C.filter fun x=>decide (v<=x.hi)).map (·.id),?_⟩;simp [W]
theorem TM(x:Int):BJ prog 281 #[I4 x] [] (.bool false):=by
 refine Se func281 ntmps281 [0] ?_;intro u R;refine A0<|A3 Y<|A0<|Zm Y<|Zm Y<|Zv (Kw Y Y)<|A3 Y<|AJ<|AO V results281 Y (by exact ⟨by simp,V⟩)
theorem XT(a b:Int):BJ prog 238 #[I4 a,I4 b] [] (I4 (gB a b)):=by
 refine Se func238 ntmps238 [0,1] ?_;intro u R;refine A0<|A3 Y<|A0<|Zm Y<|Xr [_] Y call281 Y V (TM _) ?_;refine A3 Y<|A0<|Zm Y<|Xr [_] Y call281 Y V (TM _) ?_;refine A3 Y<|Zq<|A0<|Zm Y<|A4<|AV Y (fun m=>by cases m)<|fun m=>AC<|Zx<|Zq<|A0<|Zm Y<|A4<|AV Y (fun h2=>by cases h2)<|fun h2=>AC<|Zx<|Zq<|A0<|Zm Y<|Zm Y<|Zv (Dq Y Y)<|A4<|Av Y (fun B=>?_) (fun B=>?_)
 ·
  refine A0<|AG Y<|Zn [4] ?_;refine Zx<|AJ<|Zt<|AO V results238 Y (by exact ⟨by unfold gB;simp [*],V⟩)
 refine AC<|Zx<|Zq<|A0<|Zm Y<|Zm Y<|Zv (Ep Y Y)<|Z0<|Zn [19] ?_;refine Zx<|Av Y (fun G=>?_) (fun G=>?_)
 ·
  refine A0<|A3 Y<|AJ<|Zt<|AO V results238 Y (by exact ⟨by unfold gB;simp [*],V⟩)
 refine AC<|Zx<|A0<|A3 Y<|AJ<|AO V results238 Y (by exact ⟨by unfold gB;simp [*],V⟩)
theorem Yv(x:IvM)(t:Int):BJ prog 245 #[.agg #[I4 x.lo,I4 x.hi,I4 x.rc,I4 x.id],I4 t] [] (I4 (gB x.lo t)):=by
 refine Se func245 ntmps245 [0,1] ?_;intro u R;refine A0<|Ze (Bx #[_,_,_,_])<|AD fun m=>A3 Y<|A0<|Zh 0 W7 V rfl A5 Y<|Zl AE Y ?_;refine Zm Y<|Xr [_,_] Y call238 Y V (XT _ _) ?_;refine A3 Y<|AJ<|AO V results245 Y (by exact ⟨V,V⟩)
theorem XX(hv:UA M v l)(hn:l.length<=1000000)(hs:l.Pairwise fun a b=>a.lo<=b.lo)(t:Int):Ba prog 244 #[v,I4 t,.func (.func 245) #[] #[]] [M] (fun r H'=>∃(e:Nat) (b:Bool),r= .tuple #[I4 (e:Int),.bool b]/\e<=l.length/\(∀(k:Nat) (x:IvM),k<e->l[k]?=some x->x.lo<t)/\(∀(k:Nat) (x:IvM),e<=k->l[k]?=some x->t<=x.lo)/\H'=[M]):=by
 have cO:=mL;obtain ⟨p,cap,rfl,⟨hl,cu⟩,hg⟩:=id hv;have J:∀(i j:Nat) (x y:IvM),i<=j->l[i]?=some x->l[j]?=some y->x.lo<=y.lo:=fun i j x y af G I=>by
  rcases EV i j with h|h
  · obtain ⟨h1,rfl⟩:=BE.1 G
    obtain ⟨h2,rfl⟩:=BE.1 I;exact dq.1 hs i j h1 h2 h
  · obtain rfl:i=j:=by omega
    rw [G]at I;injection I with I;rw [I];exact Xs _
 refine Se func244 ntmps244 [0,1,2] ?_;intro u R;refine A0<|Za Y<|A3 Y<|A0<|Zm Y<|Zv (Ab eM Y)<|A3 Y<|A0<|Zm Y<|Za Y<|A3 Y<|Zq<|AP<|Zb [9,10,0,1,2,8] ?_;refine BB (e0:=[(9,_),(10,_)]) (fun m e H=>∃(i j:Nat),m=j -i/\((i<=j/\j<=l.length)/\(∀(k:Nat) (x:IvM),k<i->l[k]?=some x->x.lo<t)/\(∀(k:Nat) (x:IvM),j<=k->l[k]?=some x->t<=x.lo))/\e=[(9,I4 (i:Int)),(10,I4 (j:Int))]/\H=[]) (by exact ⟨0,l.length,rfl,⟨⟨C0 _,CT _⟩,fun k x h=>absurd h (eA k),fun k x h G=>by rw [Mp h]at G;cases G⟩,rfl,rfl⟩) Wp ?_;rintro _ _ _ ⟨i,j,rfl,⟨⟨af,W⟩,O,K⟩,rfl,rfl⟩;refine Zq<|A0<|Zm Y<|Zm Y<|Zv (Au Y Y)<|A4<|Av Y (fun ax=>?_) (fun ax=>?_)
 ·
  refine AC<|Zx<|AP<|A0<|Zm Y<|Zm Y<|Ya Y Y ?_;refine BX (Lf Cl W3 Y A1)<|BX (Py (n:=1) Y Y (by first|decide|(simp [IntKind.bits];done)|(simp [IntKind.bits];omega)))<|BX (Sv W3 Cl Y A1)<|A3 Y<|Zq ?_;obtain ⟨h,hh⟩:∃h,h=(i+j)/2^1:=⟨_,rfl⟩;rw [<-hh];have bn:i<=h/\h<j:=by rw [hh];omega
  obtain ⟨x,G⟩:∃x,l[h]?=some x:=⟨_,B4 A1⟩;obtain ⟨g,off,cur,T,zz,rfl,U,X,B⟩:=hg _ _ G;refine Zg<|Zm Y<|Zm Y<|Zm Y<|BX (Ad eM N5 Y Y A1)<|CO (Gf Wo (U)) (AA (cs:=#[I4 x.lo,I4 x.hi,I4 x.rc,I4 x.id]) isAgg282 N5 Y A1 (by exact B)) V rfl ?_;refine Zm Y<|Xr [_,_] Y call245 Y V (Yv x t) ?_;refine Zv (Dq Y Y)<|Z0<|Zn [0,1,2,8,9,10,11,31] ?_;refine Zx<|Av Y (fun Z=>?_) (fun Z=>?_)
  ·
   refine Zg<|Zm Y<|Ya (n:=1) Y Y<|AG Y<|A8<|Zn [9,10,0,1,2,8] ?_;refine Aa (e':=[(9,_),(10,_)]) (by exact ⟨h+1,j,V,⟨⟨by omega,by omega⟩,fun k y hk I=>by have:=J k h y x A1 I G;have:=(aS _ _).1 Z;omega,K⟩,V,V⟩)
  refine Zg<|Zm Y<|AG Y<|A8<|Zn [9,10,0,1,2,8] ?_;refine Aa (e':=[(9,_),(10,_)]) (by exact ⟨i,h,V,⟨⟨by omega,by omega⟩,O,fun k y hk I=>by have:=J h k x y hk G I;have:=mt (aS x.lo t).2 Z;omega⟩,V,V⟩)
 obtain rfl:i=j:=by omega
 refine Ay<|Zt<|Zt<|AR<|Zx<|A0<|Zm Y<|Zm Y<|Zm Y<|Zv (Au Y Y)<|Zm Y<|Ao (t:=39) Y V (fun h5=>?_) (fun h5=>?_)
 ·
  obtain ⟨x,G⟩:∃x,l[i]?=some x:=⟨_,B4 A1⟩;obtain ⟨g,off,cur,T,zz,rfl,U,X,B⟩:=hg _ _ G;refine Zf Y Y<|Zf Y Y<|Zf Y Y ?_
  (refine Gp Y (Ad eM N5 Y Y ?_) rfl rfl ?_;(focus (omega)))
  refine Lh Y (Gf Wo (U)) (AA (cs:=#[I4 x.lo,I4 x.hi,I4 x.rc,I4 x.id]) isAgg282 N5 Y A1 (by exact B)) V rfl ?_;refine Zf Y Y<|Xr [_,_] Y call245 Y V (Yv x t) ?_;refine Yg (CP Y Y)<|Zv (AX Y Y)<|Za Y<|AG Y<|Zn [6,7] ?_;refine Zx<|AJ<|Cu V results244 Y Y (by exact ⟨i,_,V,W,O,K,V⟩)
 repeat refine A7 Y rfl ?_
 refine Zv (AL Y Y)<|Za Y<|AG Y<|Zn [6,7] ?_;refine Zx<|AJ<|Cu V results244 Y Y (by exact ⟨i,_,V,W,O,K,V⟩)
theorem ag(p:Option Addr)(n c:Nat):Ba prog 246 #[.slice p n c] [] (fun r H'=>∃b,r= .func (.func 283) #[] #[I5 b]/\H'=[[(b,.cells #[.slice p n c] 283 (0,0))]]):=by
 refine Se func246 ntmps246 [0] ?_;intro u R;refine A0<|Ze (Bx #[_])<|AD fun b=>A3 Y<|A0<|Zv (Bg (vs:=[]) (us:=[_]) Y Y)<|A3 Y<|AJ<|AO V results246 Y (by exact ⟨_,V,V⟩)
theorem ah{ls:List IvM}(hv:UA M v ls)(b:Nat)(hn:ls.length<=1000000):Mk prog 283 #[I5 b] [[(b,.cells #[v] 283 (0,0))]] (fun s=>∀c∈M,c∈s) (fun x:Nat×IvM=>#[I4 ((x.1:Nat):Int),.agg #[I4 x.2.lo,I4 x.2.hi,I4 x.2.rc,I4 x.2.id]]) (bwd ls):=by
 have cu:=mL;obtain ⟨p,cap,rfl,hl,hg⟩:=hv;intro l J Jx hA hy s G;refine Se func283 ntmps283 [0,1] ?_;intro u R;refine A0<|Zl isAgg283 Y ?_;refine Zv (Ab eM Y) ?_
 (refine BX (GG Y Y (IntWalk.i64_in _ ?_)) ?_;(focus (omega)))
 refine A3 Y<|AP<|Zb [3,0,1] ?_;refine BB (e0:=[(3,_)]) (fun m e H=>∃(k:Nat) (s:List A9),m=0+k/\(k<=ls.length/\J ((bwd ls).take (ls.length -k)) s)/\e=[(3,I4 ((k:Int) -1))]/\H=[[(b,.cells #[.slice p ls.length cap] 283 (0,0))],s]) (by exact ⟨ls.length,s,rfl,⟨CT _,by rw [W1,HX];exact G⟩,rfl,rfl⟩) Wp ?_;rintro _ _ _ ⟨k,s,rfl,⟨hk,G⟩,rfl,rfl⟩;refine Zq<|A0<|Zm Y<|Zv (H5 Y Y)<|A4<|Av Y (fun Z=>?_) (fun Z=>?_)
 ·
  obtain ⟨m,rfl⟩:∃m,k=m+1:=⟨k -1,by omega⟩;rw [show(((m+1:Nat):Int) -1)=((m:Nat):Int) by omega];obtain ⟨B,U⟩:∃B,ls[m]?=some B:=⟨_,B4 A1⟩;have K:=gK U
  obtain ⟨g,o,cur,T,zz,rfl,hm,bn,O⟩:=hg m B U;have af:=hy _ _ _ s (OG K) G
  refine AC<|Zx<|Zq<|AP<|A0<|Zm Y<|Zm Y<|Zl isAgg283 Y ?_;refine Zm Y<|BX (Ad eM N5 Y Y A1)<|CO (Gf Wo (hA _ s G _ hm)) (AA (cs:=#[I4 B.lo,I4 B.hi,I4 B.rc,I4 B.id]) isAgg282 N5 Y A1 (by exact O)) V rfl ?_;refine Ze (GR (vs:=[_,_]) Y Y (af) Wp) ?_;rintro _ _ ⟨_,⟨s',rfl,ax⟩,rfl⟩;rcases ax with⟨rfl,W⟩|⟨rfl,hJx⟩
  ·
   refine Zv (Br Y)<|A4<|AV Y (fun I=>by cases I)<|fun I=>AC<|A8<|Zx<|Zg<|Zm Y ?_
   (refine BX (GG Y Y (IntWalk.i64_in _ ?_)) ?_;(focus (omega)))
   refine AG Y<|Zn [3,0,1] ?_;refine Aa (e':=[(3,_)]) (by exact ⟨m,s',rfl,⟨by omega,by rw [show ls.length -m=ls.length -(m+1)+1 by omega,Bh K];exact W⟩,rfl,rfl⟩)
  refine Zv (Br Y)<|A4<|AV Y (fun I=>?_) (fun I=>?_)
  ·
   refine AJ<|Ac<|Zt<|Zt<|Ac ?_;refine Cv V results283 (by exact ⟨s',V,.inr ⟨_,hJx⟩⟩)
  cases I
 have X:k=0:=by omega
 subst X;rw [Sh,Hi (by rw [XW];exact CT _)]at G;refine Ay<|Zt<|Zt<|AR<|Cv V results283 (by exact ⟨s,V,.inl G⟩)
theorem XR(hv:UA M lv l)(hn:l.length<=1000000)(hs:l.Pairwise fun a b=>a.lo<=b.lo)(v:Int)(j5:-1000000000000<=v/\v<=1000000000000)(bl Z:Nat):F6 prog 243 #[I5 bl,I5 Z] [[(bl,.cells #[lv] 283 (0,0))],[(Z,.cells #[I4 v] 3 (0,0))]] (fun s=>∀c∈M,c∈s) (fun i:Int=>#[I4 i]) (Ii v l):=by
 have j3:=mL;obtain ⟨p,cap,rfl,⟨hl,ic⟩,hg⟩:=id hv;intro ly J hA X s G;refine DK func243 V ntmps243 V ?_;intro u R;refine Zb [0,1,2] ?_;refine A0<|Ze (Bx #[_])<|AD fun by_=>A4<|A0<|Zl isAgg283 Y ?_;refine Zl AE Y ?_;refine Yi Y Y<|Zc [_,_,_] Y call244 Y V (XX (hv.mono (hA _ s G)) hn hs (v+1)) ?_;rintro _ _ ⟨_,⟨e,fb,rfl,U,bn,cu,rfl⟩,rfl⟩;have O:l.takeWhile (fun x=>decide (x.lo<=v))=l.take e:=OC _ U (fun k x hk hx=>DA (by have:=bn k x hk hx;omega)) (fun k x hk hx=>CI (by have:=cu k x hk hx;omega))
 refine Zm Y<|Zd Y V<|Zd Y V<|Za Y<|A3 Y<|A0<|Zl isAgg283 Y ?_;refine Zm Y<|BX (Bq eM N5 Y Y A1)<|Zc [_] Y call246 Y V (ag _ _ _) ?_;rintro _ _ ⟨_,⟨bb,rfl,rfl⟩,rfl⟩;refine Z0<|Zn [2,3,18] ?_;refine Zx<|AP<|Zb [2,3,18] ?_;refine Xd (Ix:=(fun(_:List (Nat×IvM)) H=>∃s,J (Ii v l) s/\H=[[(Z,.cells #[I4 v] 3 (0,0))],[(by_,.cells #[.func (.yield ly) #[] #[]] 112 (0,0))],s])) (H0:=_) (R:=_) (I:=(fun(pre:List (Nat×IvM)) H=>∃s,(J (N7 v pre) s/\∀y∈pre,v<=y.2.rc)/\H=[[(Z,.cells #[I4 v] 3 (0,0))],[(by_,.cells #[.func (.yield ly) #[] #[]] 112 (0,0))],s])) (E:=fun x e Hn=>∃bx,e=[(7,I5 bx),(20,.agg #[I4 x.2.lo,I4 x.2.hi,I4 x.2.rc,I4 x.2.id]),(19,I4 ((x.1:Nat):Int))]/\Hn=[[(bx,.cells #[I4 x.2.lo,I4 x.2.hi,I4 x.2.rc,I4 x.2.id] 282 (0,0))]]) rfl Y call283 (ah (hv.take U) bb (by rw [C2];omega)) (by rintro pre _ c d ⟨s,h1,rfl⟩;intro q hq;have:=hA _ s h1.1 q hq;simp [this]) Y rfl Wp (⟨s,⟨G,fun y X=>by simp at X⟩,rfl⟩) ?ha_2 ?hbd_2 ?hk_2 ?hkx_2
 case ha_2=>
  intro _ x _ _;refine Zg<|Ze (Al zeroValue282 #[_,_,_,_])<|AD fun b2=>Xe (Xw N5 _) ?_;refine Z0<|Li (e:=[(7,_),(20,_),(19,_)]) (Hn:=[[(_,_)]]) ?_;exact ⟨_,V,V⟩
 case hbd_2=>
  intro l pre x gm u e9 gy H1 R1 r9 W hI af;obtain ⟨bx,rfl,rfl⟩:=af;obtain ⟨s,⟨G,B⟩,rfl⟩:=hI;refine AP<|Zq<|A0<|Zh 2 W7 V rfl A5 Y<|Zl AE Y ?_;refine Zl AE Y ?_;refine Zv (Dq Y Y)<|A4<|Av Y (fun h1=>?_) (fun h1=>?_)
  ·
   refine AJ<|Zt<|Ac ?_;refine kZ rfl (by exact ⟨s,by rw [<-nA O W B h1];exact G,rfl⟩)
  have m:∀y∈pre++[x],v<=y.2.rc:=fun y X=>(B9.1 X).elim (B y) (fun h=>by rw [BT.1 h];omega);refine AC<|Zx<|A0<|Zh 1 W7 V rfl A5 Y<|Zl AE Y ?_;refine Zl AE Y ?_;refine Zv (H5 Y Y)<|Zm Y<|Ao (t:=29) Y V (fun h2=>?_) (fun h2=>?_)
  ·
   obtain ⟨ek,cO⟩:=fw O W m h2;have d9:=X _ _ _ s cO G
   refine Yl isAgg112 Y ?_;refine Yf 3 W7 V rfl A5 Y<|Yl AE Y ?_;refine Ze (GR (vs:=[_]) Y Y (d9) Wp) ?_;rintro _ _ ⟨_,⟨s',rfl,rfl,ax⟩,rfl⟩;refine Yg (Br Y)<|Zv (AX Y Y)<|Z0<|Zn [35] ?_;refine Zx<|AV Y (fun hb=>by cases hb)<|fun hb=>AC<|A8<|VV rfl (by exact ⟨s',⟨by rw [Sb,AK h2];exact ax,m⟩,rfl⟩)
  repeat refine A7 Y rfl ?_
  refine Zv (AL Y Y)<|Z0<|Zn [35] ?_;refine Zx<|D5 Y<|AC<|A8<|VV rfl (by exact ⟨s,⟨by rw [Sb,AH h2,Cp];exact G,m⟩,rfl⟩)
 case hk_2=>
  intro D1 H2 K;obtain ⟨s,⟨G,B⟩,rfl⟩:=K;rw [u7 O B]at G;refine Zn [] ?_;refine A8<|GI V (yg results243) Wo (by exact ⟨s,V,G⟩)
 intro D1 gq H2 K;obtain ⟨s,G,rfl⟩:=K;refine Ac ?_;refine GI V (yg results243) Wo (by exact ⟨s,V,G⟩)
end Go.Proofs.YteaiajghbkenoaaGreatDoor
namespace Go.Proofs
open Go.Shelf
def Tryz.sortIv_ren:Go.Shelf.Ren:=⟨fun|6=>240|15=>117|14=>282|28=>199|29=>200|20=>316|21=>317|22=>318|23=>319|24=>320|25=>321|26=>322|27=>323|46=>338|47=>250|48=>251|49=>339|50=>340|57=>347|n=>n,fun|22=>280|24=>282|25=>339|3=>3|39=>222|0=>0|53=>300|55=>302|4=>4|46=>292|45=>291|50=>297|5=>5|9=>9|66=>348|70=>108|76=>385|77=>386|n=>n,fun|n=>n⟩
theorem Tryz.sortIv:Go.Proofs.SlLaysF0.n6 prog Tryz.sortIv_ren:={
 mixed:=by kernel_rfl
 f6:=⟨Tryz.f240.name,by decide,func240.trans (congrArg some A6)⟩
 f14:=⟨Tryz.f282.name,by decide,func282.trans (congrArg some A6)⟩
 f15:=func117.trans (congrArg some A6)
 f20:=⟨Tryz.f316.name,by decide,func316.trans (congrArg some A6)⟩
 f21:=⟨Tryz.f317.name,by decide,func317.trans (congrArg some A6)⟩
 f22:=⟨Tryz.f318.name,by decide,func318.trans (congrArg some A6)⟩
 f23:=⟨Tryz.f319.name,by decide,func319.trans (congrArg some A6)⟩
 f24:=⟨Tryz.f320.name,by decide,func320.trans (congrArg some A6)⟩
 f25:=⟨Tryz.f321.name,by decide,func321.trans (congrArg some A6)⟩
 f26:=⟨Tryz.f322.name,by decide,func322.trans (congrArg some A6)⟩
 f27:=⟨Tryz.f323.name,by decide,func323.trans (congrArg some A6)⟩
 f28:=func199.trans (congrArg some A6)
 f29:=func200.trans (congrArg some A6)
 f46:=⟨Tryz.f338.name,by decide,func338.trans (congrArg some A6)⟩
 f47:=func250.trans (congrArg some A6)
 f48:=func251.trans (congrArg some A6)
 f49:=⟨Tryz.f339.name,by decide,func339.trans (congrArg some A6)⟩
 f50:=⟨Tryz.f340.name,by decide,func340.trans (congrArg some A6)⟩
 f57:=⟨Tryz.f347.name,by decide,func347.trans (congrArg some A6)⟩
 t0:=cV
 a0:=isAgg0
 z0:=sizeOf0
 v0:=cX
 t3:=Cl
 a3:=AE
 z3:=A5
 v3:=Gk
 t4:=Pu
 a4:=E4
 z4:=CD
 v4:=Up
 t5:=Ln
 a5:=V0
 z5:=Hv
 v5:=S4
 t9:=GO
 a9:=HC
 z9:=F0
 v9:=HM
 t22:=Ys
 a22:=isAgg280
 z22:=sizeOf280
 v22:=zeroValue280
 t25:=underlying339
 a25:=isAgg339
 z25:=sizeOf339
 v25:=zeroValue339
 t39:=W3
 a39:=isAgg222
 z39:=eo
 v39:=eW
 t45:=kq
 a45:=isAgg291
 z45:=sizeOf291
 v45:=lR
 t46:=kx
 a46:=isAgg292
 z46:=sizeOf292
 v46:=lf
 t50:=kn
 a50:=isAgg297
 z50:=sizeOf297
 v50:=lP
 t53:=Sp
 a53:=HO
 z53:=Fc
 v53:=ec
 t55:=W4
 a55:=Z3
 z55:=cy
 v55:=ee
 t66:=l3
 a66:=isAgg348
 z66:=sizeOf348
 v66:=lj
 t70:=l4
 a70:=isAgg108
 z70:=Sx
 v70:=W8
 t76:=lA
 a76:=isAgg385
 z76:=sizeOf385
 v76:=ln
 t77:=lB
 a77:=isAgg386
 z77:=sizeOf386
 v77:=lr}
end Go.Proofs
namespace Go.Proofs.YteaiajghbkenoaaGreatDoor
open Go.Proofs.Tryz
open Go Go.RowKit Gw
set_option maxRecDepth 100000
attribute [local irreducible] Gw.At Gw.Nx Gw.Ops
open Go.Sort Go.Shelf
theorem gD(a b:IvM)(W:World):Calls prog 241 #[.agg #[I4 a.lo,I4 a.hi,I4 a.rc,I4 a.id],.agg #[I4 b.lo,I4 b.hi,I4 b.rc,I4 b.id]] W fun e B=>e= .returned (I4 (Lib.compareInt a.lo b.lo))/\∃q m,B=grow (W.drewN q) m:=by
 go_enter func241,ntmps241
 go_wp2
 all_goals (try simp only [G2]at*)
 all_goals go_ret
 all_goals refine ⟨?_,0,_,by rw [alloc_eq_grow,alloc_eq_grow,grow_grow];rfl⟩
 all_goals (simp [Lib.compareInt]<;>(try split)<;>(first|rfl|omega))
def CG(l:List IvM):List Value:=l.flatMap fun x=>[I4 x.lo,I4 x.hi,I4 x.rc,I4 x.id]
instance:Inhabited IvM:=⟨⟨0,0,0,0⟩⟩
def NG(x:IvM):List Value:=[I4 x.lo,I4 x.hi,I4 x.rc,I4 x.id]
def aT(a b:IvM):Int:=Lib.compareInt a.lo b.lo
theorem Qi(l:List IvM):(CG l).length=l.length*4:=by
 induction l with
 |nil=>rfl
 |cons a l ih=>simp only [CG,HH,B7,DE]at ih⊢;rw [ih];simp;omega
theorem ltI(a b:IvM):ltOf aT a b=decide (a.lo<b.lo):=by
 unfold ltOf aT Lib.compareInt;apply decide_eq_decide.2;split<;>(try split)<;>omega
theorem rm:SWO (ltOf aT)where
 irrefl x:=by rw [ltI];simp
 trans x y z h1 h2:=by rw [ltI]at*;simp only [G2]at*;omega
 ntrans x y z h1 h2:=by rw [ltI]at*;simp only [Mn]at*;omega
theorem bY(w:Value)(o:List IvM)(s:List A9)(hn:o.length<=1000000)(cO:Bc 4 282 w o.length (CG o) s):
 Ba prog 240 #[w,.func (.func 241) #[] #[]] [s]
  (fun r H'=>r= .tuple #[]/\∃(s':List A9) (o':List IvM),o'.Perm o/\(o'.Pairwise fun a b=>a.lo<=b.lo)/\Bc 4 282 w o'.length (CG o') s'/\H'=[s']):=by
 obtain ⟨ek,⟨rfl,h0,rfl⟩|⟨g,cap,cur,z,rfl,rfl,cu,af,J,d9,W⟩⟩:=cO
 · intro u R w0 Z
   have ho:o=[]:=LN h0;subst ho;have hN:=AnyF.slices_SortFunc_none Tryz.sortIv none 0 (.func (.func 241) #[] #[]) w0
   exact hN.mono (by
    rintro e w' ⟨rfl,rfl⟩;exact .inl ⟨_,_,V,⟨V,[],[],.refl _,.nil,Bf _ _,V⟩,Z⟩)
 · intro u R w0 Z
   have hb:=Z.get (g,.cells cur 282 z) B0;have hH:=TS (w:=w0) (g:=g) (cur:=cur) (e:=282) (z:=z) NG 4 (fun _=>rfl) o hb (by rw [J];omega) W d9
   have eg:∀(args:Array Value) (w:World),(callFunc 241 args).run prog w= .ok (.enter 241 args) w:=enters_of func241 A6 rfl;have O:CmpLays prog 241 #[] NG 4 aT g 0 o.toArray.size w0:=by
    intro m os dk gm x y;exact gD x y _
   have U:=AnyQ.slices_SortFunc Tryz.sortIv 4 isAgg282 N5 NG (fun _=>rfl) (fun x v hv=>by simp [NG]at hv;rcases hv with rfl|rfl|rfl|rfl<;>rfl) aT rm 241 #[] g 0 cap o.toArray w0 eg O hH (Z.lt (p:=(g,.cells cur 282 z)) B0) HQ;refine U.mono ?_;rintro e w' ⟨rfl,B,n,os,⟨ax,-,hpm⟩,hso,rfl⟩;have G:B.size=o.length:=by simpa using ax
   have hF:(flatK NG 4 B).toList=CG B.toList:=Nl NG 4 (fun _=>rfl) B.toList;have K:(flatK NG 4 B).size=o.length*4:=by rw [size_flatK,G]
   have I:B.toList.Perm o:=by
    have e1:B.extract 0 o.toArray.size=B:=by
     rw [show o.toArray.size=B.size by rw [G];simp];exact Array.extract_size
    rw [e1]at hpm;simpa using hpm
   have X:B.toList.length=o.length:=I.length_eq;refine .inl ⟨_,[[(g,.cells (putCells id 0 (flatK NG 4 B) cur) 282 z)]],V,⟨V,_,B.toList,I,?_,?_,V⟩,Z.sortedK NG B os⟩
   · rw [dq]
     intro i j hi hj bn;have h:=hso i j (C0 _) bn HQ
     rw [ltI]at h;simp only [Mn]at h;rw [getElem!_pos B i (by simpa using hi),getElem!_pos B j (by simpa using hj)]at h;simp only [Array.getElem_toList];omega
   · rw [X]
     refine ⟨by rw [Qi,X],.inr ⟨g,cap,_,z,rfl,rfl,cu,af,by rw [MO];exact J,?_,by rw [MO];exact W⟩⟩;have h:=VF cur (flatK NG 4 B) (by rw [K,J];omega)
     rw [K,hF]at h;exact h
end Go.Proofs.YteaiajghbkenoaaGreatDoor
namespace Go.Proofs.YteaiajghbkenoaaGreatDoor
open Go.Proofs.Tryz
open Go Go.RowKit Gw
set_option maxRecDepth 100000
attribute [local irreducible] Gw.At Gw.Nx Gw.Ops
variable{l:List IvM}{i:Nat}{x:IvM}
theorem ZH(h:l[i]?=some x):(CG l)[i*4+1]?=some (I4 x.hi)/\(CG l)[i*4+2]?=some (I4 x.rc):=by
 induction l generalizing i with
 |nil=>simp at h
 |cons a l ih=>
  cases i with
  |zero=>simp at h;subst h;exact ⟨rfl,rfl⟩
  |succ i=>
   have m:l[i]?=some x:=by simpa using h
   rw [show(i+1)*4+1=i*4+1+4 by omega,show(i+1)*4+2=i*4+2+4 by omega];exact ih m
theorem ZG(h:l[i]?=some x)(r:Int):(CG l).set (i*4+2) (I4 r)=CG (l.set i {x with rc:=r}):=by
 induction l generalizing i with
 |nil=>simp at h
 |cons a l ih=>
  cases i with
  |zero=>simp at h;subst h;rfl
  |succ i=>
   have m:l[i]?=some x:=by simpa using h
   rw [show(i+1)*4+2=i*4+2+4 by omega];have:=ih m
   show _::_::_::_::(CG l).set (i*4+2) (I4 r)=_;rw [this];rfl
variable{cur:Array Value}{n:Nat}
theorem rW(B:cur.toList.take (n*4)=CG l)(h:l[i]?=some x):cur[i*4+1]?=some (I4 x.hi)/\cur[i*4+2]?=some (I4 x.rc):=by
 obtain ⟨m,h2⟩:=ZH h;rw [<-B,H3]at m h2;constructor
 · by_cases hc:i*4+1<n*4
   · rw [AK hc]at m;simpa using m
   · rw [AH hc]at m;cases m
 · by_cases hc:i*4+2<n*4
   · rw [AK hc]at h2;simpa using h2
   · rw [AH hc]at h2;cases h2
theorem rV(m:cur.toList.take (n*4)=CG l)(h:l[i]?=some x)(r:Int):(cur.setIfInBounds (i*4+2) (I4 r)).toList.take (n*4)=CG (l.set i {x with rc:=r}):=by
 rw [fY,List.take_set,m,ZG h]
theorem iM{g m:Nat}{z:Nat×Nat}(O:l.length=n)(K:cur.toList.take (n*4)=CG l)(J:n<=m)(B:m<=maxLen)(G:cur.size=m*4)(I:IW z cur.size):Bc 4 282 (I6 g n m) l.length (CG l) [(g,.cells cur 282 z)]:=by
 subst O;exact ⟨Qi l,.inr ⟨g,m,cur,z,V,V,J,B,G,K,I⟩⟩
def Nh(x:IvM):Int×Int×Int:=(x.lo,x.hi,x.id)
def nW(l:List IvM)(i:Nat):Prop:=∀(j k:Nat) (x y:IvM),j<=k->k<i->l[j]?=some x->l[k]?=some y->x.hi<=y.rc
theorem Uy{r:Int}(h:nW l i)(W:l[i]?=some x)(U:x.hi<=r)(O:∀y,0<i->l[i -1]?=some y->y.rc<=r):nW (l.set i {x with rc:=r}) (i+1):=by
 have I:=(BE.1 W).1;intro j k a b J Z m G;rw [Sf]at m G;rcases EV k i with hki|hki
 · rw [AH A1]at m G
   exact h j k a b J hki m G
 · obtain rfl:k=i:=by omega
   rw [AK rfl,AK I]at G;injection G with G
   subst G;by_cases B:k=j
   · rw [AK B,AK I]at m;injection m with m;subst m;exact U
   · rw [AH B]at m
     obtain ⟨y,K⟩:∃y,l[k -1]?=some y:=⟨_,B4 A1⟩;have X:=h j (k -1) a y A1 A1 m K
     have h2:=O y A1 K;show a.hi<=r
     omega
theorem TH{r:Int}(B:l[i]?=some x):(l.set i {x with rc:=r}).map Nh=l.map Nh:=by
 apply Lz;intro k;rw [DH,DH,Sf];by_cases m:i=k
 · subst m
   rw [AK rfl,AK (BE.1 B).1,B];rfl
 · rw [AH m]
theorem eD(w:Value)(o:List IvM)(s:List A9)(hn:o.length<=1000000)(d9:Bc 4 282 w o.length (CG o) s):Ba prog 183 #[w] [s] (fun r H'=>r=w/\∃(s':List A9) (l o':List IvM),o'.Perm o/\(o'.Pairwise fun a b=>a.lo<=b.lo)/\l.map Nh=o'.map Nh/\nW l l.length/\Bc 4 282 w l.length (CG l) s'/\H'=[s']):=by
 have pg:=mL;obtain ⟨pw,cw,rfl⟩:=d9.form;refine Se func183 ntmps183 [0] ?_;intro u R;refine A0<|A3 Y<|A0<|Zm Y<|Zc [_,_] Y call240 Y V (bY _ o s hn d9) ?_;rintro _ _ ⟨_,⟨rfl,s1,o1,cu,l9,l8,rfl⟩,rfl⟩;have l5:=cu.length_eq
 refine A4<|Zq<|A0<|Zm Y<|Zv (Ab Ys Y)<|Zm Y<|A4<|AP<|Zb [8,0,7] ?_;refine BB (e0:=[(8,_)]) (fun m e H=>∃(i:Nat) (l:List IvM) (s2:List A9),m=o.length -i/\((i<=o.length/\l.length=o.length)/\l.map Nh=o1.map Nh/\nW l i/\Bc 4 282 (.slice pw o.length cw) l.length (CG l) s2)/\e=[(8,I4 (i:Int))]/\H=[s2]) (by exact ⟨0,o1,s1,V,⟨⟨C0 _,l5⟩,V,fun j k x y _ h=>absurd h (eA k),l8⟩,V,V⟩) Wp ?_;rintro _ _ _ ⟨i,l,s2,rfl,⟨⟨p8,j5⟩,W,K,cO⟩,rfl,rfl⟩;refine A0<|Zv (Au Y Y)<|A4<|Zq<|Av Y (fun kv=>?_) (fun kv=>?_)
 ·
  refine AC<|Zx<|Zq<|AP<|A0<|Zm Y<|A3 Y<|Zq ?_;rcases cO with⟨o9,⟨gm,h0,rfl⟩|⟨g,cap,cur,z,gm,rfl,p9,af,ax,ek,bn⟩⟩
  · omega
  injection gm with e1 e2 e3
  subst e1 e3;obtain ⟨x,Z⟩:∃x,l[i]?=some x:=⟨_,B4 A1⟩;have gy:=rW ek Z
  refine Zg<|Zm Y<|Zm Y<|Zm Y<|Zm Y<|BX (Ad Ys N5 Y Y A1)<|Zv (Aq (off:=1) W7 rfl rfl A5 Y)<|Zl AE Y (hv:=by exact (by rw [D2];exact gy.1)) ?_;refine BX (Ad Ys N5 Y Y A1)<|Zv (Aq (off:=2) W7 V rfl A5 Y)<|Xe (Zs A5 Y Y V (hi:=by omega) (hz:=by exact bn)) ?_;refine Z0<|Zn [0,3,7,8] ?_;refine Zx<|Zq ?_;obtain ⟨U,G⟩:∃U,U=cur.setIfInBounds (0+i*4+2) (I4 x.hi):=⟨_,rfl⟩;rw [<-G];have B:U.toList.take (l.length*4)=CG (l.set i {x with rc:=x.hi}):=by rw [G,D2];exact rV ek Z x.hi
  have I:U.size=cw*4:=by rw [G,SM];exact ax
  have J:IW z U.size:=by rw [I,<-ax];exact bn
  have X:(l.set i {x with rc:=x.hi})[i]?=some {x with rc:=x.hi}:=by rw [Sf,AK rfl,AK A1]
  have ic:=rW B X;refine Zg<|Zm Y<|Zv (DF (n:=0) Y Y)<|A4<|Av Y (fun gq=>?_) (fun gq=>?_)
  ·
   obtain ⟨y,hy⟩:∃y,l[i -1]?=some y:=⟨_,B4 A1⟩;have o8:(l.set i {x with rc:=x.hi})[i -1]?=some y:=by rw [Sf,AH A1];exact hy
   have j3:=rW B o8;refine Az (n:=17) (0::0::0::0::12::28::60::0::0::256::896::1920::3968::8188::16383::32767::65535::[]) 65536 A6 A6 rfl<|A2 0 rfl (AQ Y)<|A2 1 rfl (AQ Y)<|A2 2 rfl (AQ Y)<|A2 3 rfl (AQ Y)<|A2 4 rfl (Ad Ys N5 Y Y A1)<|A2 5 rfl (Aq (off:=2) W7 rfl rfl A5 Y)<|B3 6 rfl AE Y (hv:=by exact (by rw [D2];exact ic.2)) ?_;refine A2 7 V (AQ Y)<|A2 8 V (AQ Y) ?_
   (refine Dl (D':=1023) 9 (CL (n:=1) Y Y ?_ ?_) ?_;(focus (omega));(focus (omega)))
   refine A2 10 rfl (Ad Ys N5 Y Y A1)<|A2 11 rfl (Aq (off:=2) W7 rfl rfl A5 Y)<|B3 12 rfl AE Y (hv:=by exact (by rw [D2];exact j3.2)) ?_;refine A2 13 V (Q3 Y Y)<|A2 14 V (Ad Ys N5 Y Y A1)<|A2 15 V (Aq (off:=2) W7 V rfl A5 Y)<|Zz (l:=[16])<|B1 [false,false] [] V rfl (Zs A5 Y Y V (hi:=by omega) (hz:=by exact J)) ?_ (fun _ _ h=>h.elim) Ag;rintro _ _ ⟨rfl,rfl⟩;refine B5<|Ai<|Zn [0,7,8] ?_;refine A8<|Zx<|Zg<|Ya (n:=1) Y Y<|Zm Y<|Z0<|Zn [8,0,7] ?_;refine Aa (e':=[(8,_)]) (by exact ⟨i+1,(l.set i {x with rc:=x.hi}).set i {x with rc:=max x.hi y.rc},[(g,.cells (U.setIfInBounds (0+i*4+2) (I4 (max x.hi y.rc))) 282 z)],rfl,⟨⟨by omega,by simp;omega⟩,by rw [TH X,TH Z];exact W,by rw [List.set_set];exact Uy K Z A1 (fun y2 _ O=>by rw [hy]at O;injection O with O;rw [<-O];omega),iM HQ (by rw [D2,e2];exact rV B X _) A1 af (by rw [SM];exact I) (by rw [SM];exact J)⟩,rfl,rfl⟩)
  refine AC<|A8<|Zx<|Zg<|Ya (n:=1) Y Y<|Zm Y<|Z0<|Zn [8,0,7] ?_;refine Aa (e':=[(8,_)]) (by exact ⟨i+1,l.set i {x with rc:=x.hi},[(g,.cells U 282 z)],rfl,⟨⟨by omega,by simp;omega⟩,by rw [TH Z];exact W,Uy K Z A1 (fun y2 h0=>absurd h0 A1),iM HQ (by rw [e2];exact B) A1 af I J⟩,rfl,rfl⟩)
 obtain rfl:i=o.length:=by omega
 refine Ay<|Zt<|Zt<|AR<|Zx<|A0<|Zm Y<|A3 Y<|AJ<|AO V results183 Y (by exact ⟨V,s2,l,o1,cu,l9,W,j5▸K,cO,V⟩)
theorem uQ(v:Int):∀{l:List IvM},(l.Pairwise fun a b=>a.lo<=b.lo)->l.takeWhile (fun x=>decide (x.lo<=v))=l.filter fun x=>decide (x.lo<=v)
 |[],_=>rfl
 |a::l,h=>by
  obtain ⟨B,h2⟩:=On.1 h;by_cases m:a.lo<=v
  · rw [pC (by simpa using m),List.filter_cons_of_pos (by simpa using m),uQ v h2]
  · rw [pD (by simpa using m),iz (by simpa using m)]
    exact (j0.2 fun b G=>by have:=B b G;simp;omega).symm
theorem Un(v:Int):∀{q:List IvM},(q.Pairwise fun a b=>b.hi<=a.rc)->(∀a∈q,a.hi<=a.rc)->(q.takeWhile fun x=>decide (v<=x.rc)).filter (fun x=>decide (v<=x.hi))=q.filter fun x=>decide (v<=x.hi)
 |[],_,_=>rfl
 |a::q,h,hs=>by
  obtain ⟨G,h2⟩:=On.1 h;by_cases B:v<=a.rc
  · rw [pC (by simpa using B),ar,ar,Un v h2 fun b m=>hs b (E3 _ m)]
  · rw [pD (by simpa using B)]
    refine (j0.2 fun b m=>?_).symm;rcases D0.1 m with rfl|m
    · have:=hs b B0;simp;omega
    · have:=G b m;simp;omega
theorem nC{v:Int}(X:l.Pairwise fun a b=>a.lo<=b.lo)(K:nW l l.length)(i:Int):i∈Ii v l↔∃x∈l,x.lo<=v/\v<=x.hi/\x.id=i:=by
 have W:l.Pairwise fun a b=>a.hi<=b.rc:=dq.2 fun j k m J U=>K j k _ _ A1 J (B4 m) (B4 J);have O:∀a∈l,a.hi<=a.rc:=fun a G=>by
  obtain ⟨j,m,rfl⟩:=List.mem_iff_getElem.1 G;exact K j j _ _ (CT _) m (B4 m) (B4 m)
 unfold Ii;rw [uQ v X,Un v (List.pairwise_reverse.2 (W.sublist SU)) fun a G=>O a (F1.1 (e5.1 G)).1];simp only [Bk,F1,e5,G2];constructor
 · rintro ⟨x,⟨⟨I,B⟩,h2⟩,rfl⟩;exact ⟨x,I,B,h2,rfl⟩
 · rintro ⟨x,I,B,h2,rfl⟩;exact ⟨x,⟨⟨I,B⟩,h2⟩,rfl⟩
variable{o:List IvM}
theorem Z8(m:l.map Nh=o.map Nh){a b i:Int}:(∃x∈l,x.lo=a/\x.hi=b/\x.id=i)↔∃x∈o,x.lo=a/\x.hi=b/\x.id=i:=by
 have h:∀{l:List IvM},(∃x∈l,x.lo=a/\x.hi=b/\x.id=i)↔(a,b,i)∈l.map Nh:=fun{l}=>by
  simp only [Bk,Nh,gS]
 rw [h,h,m]
theorem Z9(m:l.map Nh=o.map Nh)(B:o.Pairwise fun a b=>a.lo<=b.lo):l.Pairwise fun a b=>a.lo<=b.lo:=by
 have h:∀{l:List IvM},(l.Pairwise fun a b=>a.lo<=b.lo)↔(l.map Nh).Pairwise fun a b=>a.1<=b.1:=fun{l}=>by
  rw [T7];rfl
 rw [h,m];exact h.1 B
def Qz(x:Int×QM):IvM:=⟨x.2.lo,x.2.hi,0,x.1⟩
def plQ(x:Int×QM):Int×Int:=(x.2.tb,x.2.cl)
def Ea(vs:List (Int×QM))(k:Int×Int):List IvM:=(vs.filter fun x=>decide (plQ x=k)).map Qz
def FM(vs:List (Int×QM))(t:Int):List Int:=(vs.filter fun x=>decide (x.2.kd=7/\x.2.ot=t)).map (·.1)
theorem TJ(vs:List (Int×QM))(x:Int×QM)(k:Int×Int):Ea (vs++[x]) k=if k=plQ x then Ea vs (plQ x)++[Qz x]else Ea vs k:=by
 unfold Ea;rw [HU,BW];by_cases h:k=plQ x
 · subst h;simp
 · rw [AH h,iz (by simpa using fun e=>h e.symm)];simp
theorem Ni(vs:List (Int×QM))(x:Int×QM)(t:Int):FM (vs++[x]) t=if x.2.kd=7/\t=x.2.ot then FM vs x.2.ot++[x.1]else FM vs t:=by
 unfold FM;rw [HU,BW];by_cases h:x.2.kd=7/\t=x.2.ot
 · obtain ⟨m,rfl⟩:=h;simp [m]
 · rw [AH h,iz (by simpa using fun e1 e2=>h ⟨e1,e2.symm⟩)];simp
theorem ZJ(a b:List IvM):CG (a++b)=CG a++CG b:=by unfold CG;rw [OK]
abbrev ul(vs:List (Int×QM))(lm:List ((Int×Int)×Value))(M:List A9):Prop:=UC 4 282 lm (fun k=>(Ea vs k).length) (fun k=>CG (Ea vs k)) M
abbrev bA(vs:List (Int×QM))(lm:List (Int×Value))(M:List A9):Prop:=UC 1 3 lm (fun t=>(FM vs t).length) (fun t=>(FM vs t).map fun i=>Value.int .i64 i) M
variable{vs:List (Int×QM)}{M:List A9}
theorem mU{lm:List ((Int×Int)×Value)}(W:(lm.map (·.1)).Nodup)(h:ul vs lm M)(x:Int×QM):
 ∃s B,Bc 4 282 ((EF (plQ x) lm).getD (.slice none 0 0)) (Ea vs (plQ x)).length (CG (Ea vs (plQ x))) s/\M.Perm (s++B)/\∀(I:Value) (G:List A9) (m:List ((Int×Int)×Value)),(m.map (·.1)).Nodup->(∀p,p∈m↔p=(plQ x,I)\/(p∈lm/\p.1≠plQ x))->
  Bc 4 282 I (Ea vs (plQ x)++[Qz x]).length (CG (Ea vs (plQ x)++[Qz x])) G->ul (vs++[x]) m (G++B):=by
 obtain ⟨s,B,K,h2,O⟩:=QD W h (plQ x);refine ⟨s,B,K,h2,fun I G m J X Z=>?_⟩;have U:=O I G _ _ m J X Z
 have e1:(fun k=>(Ea (vs++[x]) k).length)=fun k=>if k=plQ x then(Ea vs (plQ x)++[Qz x]).length else(Ea vs k).length:=funext fun k=>by
  rw [TJ];split<;>rfl
 have e2:(fun k=>CG (Ea (vs++[x]) k))=fun k=>if k=plQ x then CG (Ea vs (plQ x)++[Qz x])else CG (Ea vs k):=funext fun k=>by
  rw [TJ];split<;>rfl
 unfold ul;rw [e1,e2];exact U
variable{lm:List (Int×Value)}
theorem mP(X:(lm.map (·.1)).Nodup)(h:bA vs lm M)(x:Int×QM)(K:x.2.kd=7):
 ∃s B,Bc 1 3 ((EF x.2.ot lm).getD (.slice none 0 0)) (FM vs x.2.ot).length ((FM vs x.2.ot).map fun i=>Value.int .i64 i) s/\M.Perm (s++B)/\∀(I:Value) (G:List A9) (m:List (Int×Value)),(m.map (·.1)).Nodup->(∀p,p∈m↔p=(x.2.ot,I)\/(p∈lm/\p.1≠x.2.ot))->
  Bc 1 3 I (FM vs x.2.ot++[x.1]).length ((FM vs x.2.ot++[x.1]).map fun i=>Value.int .i64 i) G->bA (vs++[x]) m (G++B):=by
 obtain ⟨s,B,O,h2,U⟩:=QD X h x.2.ot;refine ⟨s,B,O,h2,fun I G m J Z hr=>?_⟩;have W:=U I G _ _ m J Z hr
 have e1:(fun k=>(FM (vs++[x]) k).length)=fun k=>if k=x.2.ot then(FM vs x.2.ot++[x.1]).length else(FM vs k).length:=funext fun k=>by
  rw [Ni];simp only [K,Wc];split<;>rfl
 have e2:(fun k=>(FM (vs++[x]) k).map fun i=>Value.int .i64 i)=fun k=>if k=x.2.ot then(FM vs x.2.ot++[x.1]).map fun i=>Value.int .i64 i else(FM vs k).map fun i=>Value.int .i64 i:=funext fun k=>by
  rw [Ni];simp only [K,Wc];split<;>rfl
 unfold bA;rw [e1,e2];exact W
theorem mR(h:bA vs lm M)(x:Int×QM)(m:x.2.kd≠7):bA (vs++[x]) lm M:=by
 have e:FM (vs++[x])=FM vs:=funext fun t=>by rw [Ni,AH (fun h=>m h.1)]
 unfold bA;rw [e];exact h
theorem jg(q:QM)(B:BI q):Ba prog 178 #[.agg q.A17] [] (fun r H'=>r= .tuple #[I4 q.tb,I4 q.cl,I4 q.lo,I4 q.hi]/\H'=[]):=by
 refine Se func178 ntmps178 [0] ?_;intro u R;refine A0<|Ze (Bx #[_,_,_,_,_,_,_])<|AD fun G=>Za Y<|Za Y<|Za Y<|A3 Y<|Zq<|A0<|Zo Wh (AA (cs:=q.A17) Dg C7 Y Wn (by exact BN V)) ?_;refine Xr [_] Y call34 Y V (JW q) ?_;refine Zv (DD Y)<|A4<|AV Y (fun m=>?_) (fun m=>?_)
 ·
  exfalso;simp [B]at m
 refine AC<|Zx<|Zq<|Az (n:=12) (0::1::0::4::0::16::0::64::3::271::831::2047::[]) 0 A6 A6 V<|A2 0 V (AB (off:=1) C6 V rfl A5 Y)<|B3 1 V AE Y ?_;refine A2 2 V (AB (off:=2) C6 V rfl A5 Y)<|B3 3 V AE Y ?_;refine A2 4 V (AB (off:=3) C6 V rfl A5 Y)<|B3 5 V AE Y ?_;refine A2 6 V (AB (off:=4) C6 V rfl A5 Y)<|B3 7 V AE Y ?_;refine A2 8 V (Aw Y)<|A2 9 V (Aw Y)<|A2 10 V (Aw Y)<|A2 11 V (Aw Y)<|Ai<|Zn [2,3,4,5] ?_;refine Zx<|AJ<|iV V results178 Y Y Y Y (by exact ⟨V,V⟩)
def av(lm:List (Int×Value))(js:List Nat)(vs:List (Int×QM)):Prop:=vs.length=js.length/\∀x,x∈vs↔∃j∈js,lm[j]?=some (x.1,(.agg #[I4 x.2.kd,I4 x.2.tb,I4 x.2.cl,I4 x.2.lo,I4 x.2.hi,I4 x.2.bq,I4 x.2.ot]:Value))
variable{js:List Nat}{j:Nat}
theorem bg(h:av lm js vs){x:Int×QM}(B:lm[j]?=some (x.1,(.agg #[I4 x.2.kd,I4 x.2.tb,I4 x.2.cl,I4 x.2.lo,I4 x.2.hi,I4 x.2.bq,I4 x.2.ot]:Value))):av lm (js++[j]) (vs++[x]):=by
 refine ⟨by rw [B7,B7,h.1];rfl,fun y=>?_⟩;rw [B9,h.2];constructor
 · rintro (⟨i,hi,m⟩|m)
   · exact ⟨i,DS _ hi,m⟩
   · rw [BT.1 m];exact ⟨j,by simp,B⟩
 · rintro ⟨i,hi,m⟩
   rcases B9.1 hi with hi|hi
   · exact .inl ⟨i,hi,m⟩
   · rw [BT.1 hi,B]at m
     injection m with m
     refine .inr (BT.2 ?_);obtain ⟨a,q⟩:=x;obtain ⟨b,r⟩:=y;obtain ⟨G,q2,I,J,K,O,U⟩:=q;obtain ⟨W,X,Z,r4,r5,r6,r7⟩:=r;simp at m;simp [m]
theorem TK(vs:List (Int×QM))(k:Int×Int):(Ea vs k).length<=vs.length:=by unfold Ea;rw [B2];exact Mu _ _
def Qu(o l:List IvM):Prop:=∃o':List IvM,o'.Perm o/\(o'.Pairwise fun a b=>a.lo<=b.lo)/\l.map Nh=o'.map Nh/\nW l l.length
variable{lmA:List ((Int×Int)×Value)}{pn:(Int×Int)×Value}
theorem kz(G:(lmA.map (·.1)).Nodup)(m:lmA[j]?=some pn)(p:(Int×Int)×Value):p∈lmA↔p=(pn.1,pn.2)\/(p∈lmA/\p.1≠pn.1):=by
 constructor
 · intro B
   by_cases h:p.1=pn.1
   · obtain ⟨i,hi⟩:=GW B
     obtain rfl:=Kq G hi m h;rw [m]at hi;injection hi with hi;exact .inl hi.symm
   · exact .inr ⟨B,h⟩
 · rintro (rfl|⟨h,_⟩)
   · exact DG m
   · exact h
variable{ks:List Nat}
theorem bZ{I G:List ((Int×Int)×Value)}(K:(lmA.map (·.1)).Nodup)(B:lmA[j]?=some pn)(J:¬j∈ks)(W:∀p,p∈I↔∃k∈ks,lmA[k]?=some p)(U:∀p,p∈G↔p=(pn.1,pn.2)\/(p∈I/\p.1≠pn.1))(p:(Int×Int)×Value):p∈G↔∃k∈ks++[j],lmA[k]?=some p:=by
 rw [U,W];constructor
 · rintro (rfl|⟨⟨k,K,m⟩,hne⟩)
   · exact ⟨j,by simp,B⟩
   · exact ⟨k,DS _ K,m⟩
 · rintro ⟨k,O,m⟩
   rcases B9.1 O with hk1|hk1
   · refine .inr ⟨⟨k,hk1,m⟩,fun X=>J ?_⟩
     obtain rfl:=Kq K m B X;exact hk1
   · rw [BT.1 hk1,B]at m;injection m with m;exact .inl m.symm
variable{g:Int×Int->List IvM}
theorem fU(O:(lmA.map (·.1)).Nodup)(B:lmA[j]?=some pn)(G:¬j∈ks){f:Int×Int->List IvM}{l2:List IvM}(J:∀i p,lmA[i]?=some p->if i∈ks then Qu (f p.1) (g p.1)else g p.1=f p.1)(h2:Qu (g pn.1) l2):
 ∀i p,lmA[i]?=some p->if i∈ks++[j]then Qu (f p.1) ((fun k=>if k=pn.1 then l2 else g k) p.1)else(fun k=>if k=pn.1 then l2 else g k) p.1=f p.1:=by
 intro i p hi;have h:=J i p hi
 by_cases m:i=j
 · subst m
   rw [B]at hi;injection hi with hi;subst hi
   rw [AH G]at h;rw [AK B0];simp only [Hh];rw [<-h];exact h2
 · have I:p.1≠pn.1:=fun K=>m (Kq O hi B K)
   simp only [AH I,B9,BT,m,SD];exact h
theorem xH{lm:List ((Int×Int)×Value)}{l2:List IvM}{m:Int×Int}(h:UC 4 282 lm (fun x=>if x=m then l2.length else(g x).length) (fun x=>if x=m then CG l2 else CG (g x)) M):UC 4 282 lm (fun k=>((fun k=>if k=m then l2 else g k) k).length) (fun k=>CG ((fun k=>if k=m then l2 else g k) k)) M:=by
 have e1:(fun k=>((fun k=>if k=m then l2 else g k) k).length)=fun x=>if x=m then l2.length else(g x).length:=funext fun k=>by
  show(if k=m then l2 else g k).length=_;split<;>rfl
 have e2:(fun k=>CG ((fun k=>if k=m then l2 else g k) k))=fun x=>if x=m then CG l2 else CG (g x):=funext fun k=>by
  show CG (if k=m then l2 else g k)=_;split<;>rfl
 rw [e1,e2];exact h
theorem ZQ(vs:List (Int×QM))(t:Int):(FM vs t).length<=vs.length:=by unfold FM;rw [B2];exact Mu _ _
def IX(c:Chg)(i:Nat):List AU:=(if 1<=i/\c.had=true then [⟨c.t,c.k,c.o⟩]else [])++(if 2<=i/\c.has=true then [⟨c.t,c.k,c.n⟩]else [])
def FI(c:Chg):List AU:=IX c 2
theorem og(c:Chg)(i:Nat)(h:i<2):∃(fi:Nat) (rv:AU) (vb:Bool),(#[.func (.func 141) #[] #[],.func (.func 142) #[] #[]]:Array Value)[i]?=some (.func (.func fi) #[] #[])/\(∀(args:Array Value) (w:World),(callFunc fi args).run prog w= .ok (.enter fi args) w)/\
 BJ prog fi #[.agg c.A15] [] (.tuple #[.agg rv.A16,.bool vb])/\(vb=true->IX c (i+1)=IX c i++[rv]/\∃m,FI c=IX c i++rv::m)/\(vb=false->IX c (i+1)=IX c i):=by
 rcases (by omega:i=0\/i=1)with rfl|rfl
 · refine ⟨_,_,c.had,rfl,call141,Ux c,fun hv=>?_,fun hv=>?_⟩
   · unfold FI IX EK;simp [hv]
   · unfold IX;simp [hv]
 · refine ⟨_,_,c.has,rfl,call142,OQ c,fun hv=>?_,fun hv=>?_⟩
   · unfold FI IX EK;simp [hv]
   · unfold IX;simp [hv]
theorem fo(c:Chg):Ba prog 185 #[.agg c.A15] [] (fun r H'=>∃b,r= .func (.func 242) #[] #[I5 b]/\H'=[[(b,.cells c.A15 69 (0,0))]]):=by
 refine Se func185 ntmps185 [0] ?_;intro u R;refine A0<|Ze (Eo Y (cs:=c.A15) A6)<|AD fun b=>A3 Y<|A0<|Zv (Bg (vs:=[]) (us:=[_]) Y Y)<|A3 Y<|AJ<|AO V results185 Y (by exact ⟨_,V,V⟩)
theorem fq(c:Chg)(b:Nat):F6 prog 242 #[I5 b] [[(b,.cells c.A15 69 (0,0))]] (fun _=>True) (fun x:AU=>#[.agg x.A16]) (FI c):=by
 intro l J hA hy s I;refine Se func242 ntmps242 [0,1] ?_;intro u R;refine A0<|Ze (Ah (vs:=[_,_]) (cs:=[_,_]) underlying340 sizeOf171 zeroValue171 Y V rfl V rfl V)<|AD fun bf=>Zv (Ab underlying340 Y)<|Zm Y<|A4<|AP<|Zb [9,0,1,7,8] ?_;refine BB (e0:=[(9,_)]) (fun m e H=>∃(i:Nat) (s:List A9),m=2 -i/\(i<=2/\J (IX c i) s)/\e=[(9,I4 (i:Int))]/\H=[s]) (by exact ⟨0,s,V,⟨by decide,I⟩,V,V⟩) Wp ?_;rintro _ _ _ ⟨i,s,rfl,⟨hi,I⟩,rfl,rfl⟩;refine A0<|Zv (Au Y Y)<|A4<|Zq<|Av Y (fun Z=>?_) (fun Z=>?_)
 ·
  obtain ⟨fi,rv,vb,W,X,af,K,O⟩:=og c i A1;refine AC<|Zx<|Zq<|AP<|A0<|BX (BS underlying340 sizeOf171 Y Y A1)<|Zl isAgg171 Y (hv:=by exact W) ?_;refine A3 Y<|A0<|Zm Y<|Zo Wh (Pa #[_,_,_,_,_,_,_,_,_,_] Fk C1 Y) ?_;refine Xr [_] Y (X) Y V (af) ?_;refine Zm Y<|Zd Y V<|Zd Y V<|Ze (Al DP #[_,_,_,_,_])<|AD fun br=>Xe (Xw AW _) ?_;refine AG Y<|Zn [0,1,5,6,7,8,9] ?_;refine Zx<|A0<|Zm Y<|Zm Y<|Af (t:=20) Y V (fun G=>?_) (fun G=>?_)
  ·
   obtain ⟨hu,bn,B⟩:=K G;have ax:=hy _ _ _ s B I
   refine Zf Y Y<|E5 Y Wh (Pa #[_,_,_,_,_] CH AW Y) V rfl ?_;refine Ze (GR (vs:=[_]) Y Y (ax) Wp) ?_;rintro _ _ ⟨_,⟨s',rfl,rfl,U⟩,rfl⟩;refine Yg (Br Y)<|Zv (AX Y Y)<|A4<|AV Y (fun hb=>by cases hb)<|fun hb=>AC<|A8<|Zx<|Zg<|Ya (n:=1) Y Y<|Zm Y<|Z0<|Zn [9,0,1,7,8] ?_;refine Aa (e':=[(9,_)]) (by exact ⟨i+1,s',rfl,⟨by omega,by rw [hu];exact U⟩,rfl,rfl⟩)
  have hu:=O G;refine A7 Y V<|A7 Y V<|A7 Y V<|A7 Y V<|Zv (AL Y Y)<|A4<|D5 Y<|AC<|A8<|Zx<|Zg<|Ya (n:=1) Y Y<|Zm Y<|Z0<|Zn [9,0,1,7,8] ?_;refine Aa (e':=[(9,_)]) (by exact ⟨i+1,s,rfl,⟨by omega,by rw [hu];exact I⟩,rfl,rfl⟩)
 obtain rfl:i=2:=by omega
 refine Ay<|Zt<|Zt<|AR<|Cv V results242 (by exact ⟨s,V,I⟩)
theorem Sa:Fp prog 279 K2 KD:=Fp.ofLaw (deep_law (m:=3) (by decide) (by kernel_rfl) (by kernel_rfl) (by kernel_rfl)) (by
 rintro ⟨a,b⟩ ⟨I,J⟩;have G:Tryz.prog.types.size+1=(Tryz.prog.types.size -1)+1+1:=by
  have:0<Tryz.prog.types.size:=HP A6;omega
 have hc:Tryz.prog.cellsOf 3=1:=by kernel_rfl
 have B:Tryz.prog.cellsOf 279=2:=by kernel_rfl
 have U:Tryz.prog.keyType 279=true:=by kernel_rfl
 have O:(K2 (a,b)).formed prog 279=true:=by
  unfold Value.formed K2;rw [i6];simp [B]
 unfold keyOf;rw [i6];simp only [U,O,Bool.and_self,Hh];obtain ⟨d,K⟩:∃d,Tryz.prog.types.size+1=d+1+1:=⟨_,G⟩;rw [K];unfold Program.keyLits;rw [i6];have W:=Oq prog d a Cl I
 have X:=Oq prog d b Cl J;simp [K2,Value.cells,hc,B,W,X]) ui
def uj(M:List A9)(v:Value)(l:List Int):Prop:=∃p cap,v= .slice p l.length cap/\(l.length<=maxLen/\l.length<=cap)/\∀(i:Nat) (x:Int),l[i]?=some x->∃g off cur T zz,p=some ⟨g,off,none⟩/\(g,Obj.cells cur T zz)∈M/\cur[off+i]?=some (I4 x)
variable{v:Value}
theorem uj.mono{m:List A9}{l:List Int}(h:uj M v l)(K:∀c∈M,c∈m):uj m v l:=by
 obtain ⟨p,cap,e,J,I⟩:=h;refine ⟨p,cap,e,J,fun i x O=>?_⟩;obtain ⟨g,off,cur,T,zz,B,h2,G⟩:=I i x O;exact ⟨g,off,cur,T,zz,B,K _ h2,G⟩
structure PO(sc:Int->Int->List IvM)(jn:Int->List Int)(lp:Nat)(ML:List A9):Prop where
 ex:∃ms ess cks lms mj esj ckj lmj,(lp,Obj.cells #[.map (some ms),.map (some mj)] 277 (0,0))∈ML/\(ms,Obj.map ess cks)∈ML/\Cj K2 ess cks lms/\(∀p∈lms,KD p.1)/\(mj,Obj.map esj ckj)∈ML/\Cj (fun n:Int=>Value.int .i64 n) esj ckj lmj/\
  (∀a b,UA ML ((EF (a,b) lms).getD (.slice none 0 0)) (sc a b))/\(∀t,uj ML ((EF t lmj).getD (.slice none 0 0)) (jn t))
 asc:∀a b,(sc a b).Pairwise fun x y=>x.lo<=y.lo
 len:∀a b,(sc a b).length<=1000000
def IG(sc:Int->Int->List IvM)(t:Int)(r:AU)(n:Nat):List Int:=(List.range n).flatMap fun col=>Ii (Dc r col) (sc t (col:Int))
def NC(sc:Int->Int->List IvM)(jn:Int->List Int)(c:Chg):List Int:=((FI c).flatMap fun r=>IG sc c.t r 4)++jn c.t
theorem Rs(sc:Int->Int->List IvM)(t:Int)(r:AU)(n:Nat):IG sc t r (n+1)=IG sc t r n++Ii (Dc r n) (sc t (n:Int)):=by
 unfold IG;rw [gA,OK];simp
theorem oQ(sc:Int->Int->List IvM)(t:Int)(r:AU)(h:n<4):∃m,IG sc t r 4=IG sc t r n++Ii (Dc r n) (sc t (n:Int))++m:=by
 rcases (by omega:n=0\/n=1\/n=2\/n=3)with rfl|rfl|rfl|rfl<;>simp only [Rs,CA]<;>first|exact ⟨_,rfl⟩|(refine ⟨[],?_⟩;simp)
variable{sc:Int->Int->List IvM}{jn:Int->List Int}{c:Chg}
theorem eG{pre B:List AU}{x:AU}(h:FI c=pre++x::B)(K:n<4){G m:List Int}{id:Int}(h2:Ii (Dc x n) (sc c.t (n:Int))=G++id::m):
 ∃I,NC sc jn c=((pre.flatMap fun r=>IG sc c.t r 4)++IG sc c.t x n++G)++id::I:=by
 obtain ⟨O,J⟩:=oQ sc c.t x K;unfold NC;rw [h,OK,HH,J,h2];exact ⟨m++O++(B.flatMap fun r=>IG sc c.t r 4)++jn c.t,by simp⟩
theorem XQ(v:Value)(x:Int)(B:v.oneCell'=true):Ba prog 186 #[v,I4 x] [] (fun r H'=>∃bl m,r= .func (.func 243) #[] #[I5 bl,I5 m]/\H'=[[(bl,.cells #[v] 283 (0,0))],[(m,.cells #[I4 x] 3 (0,0))]]):=by
 refine Se func186 ntmps186 [0,1] ?_;intro u R;refine A0<|Ze (Eo Y (cs:=#[v]) (by cases v<;>first|rfl|simp [Value.oneCell']at B))<|AD fun bl=>Ze (Bx #[_])<|AD fun m=>A3 Y<|A0<|Zv (Bg (vs:=[]) (us:=[_,_]) Y Y)<|A3 Y<|AJ<|AO V results186 Y (by exact ⟨bl,m,V,V⟩)
theorem kg(lp:Nat)(c:Chg):Ba prog 112 #[I5 lp,.agg c.A15] [] (fun r H'=>∃bl m,r= .func (.func 184) #[] #[I5 m,I5 bl]/\H'=[[(bl,.cells #[I5 lp] 184 (0,0))],[(m,.cells c.A15 69 (0,0))]]):=by
 refine Se func112 ntmps112 [0,1] ?_;intro u R;refine A0<|Ze (Bx #[_])<|AD fun bl=>Ze (Eo Y (cs:=c.A15) A6)<|AD fun m=>A3 Y<|A0<|Zv (Bg (vs:=[]) (us:=[_,_]) Y Y)<|A3 Y<|AJ<|AO V results112 Y (by exact ⟨bl,m,V,V⟩)
variable{lp:Nat}{ML:List A9}
theorem ko(hL:PO sc jn lp ML)(c:Chg)(p8:∀r∈FI c,∀n:Nat,n<4->-1000000000000<=Dc r n/\Dc r n<=1000000000000)(p9:-9223372036854775808<=c.t/\c.t<=9223372036854775807)(vz:(jn c.t).length<=1000000)(bc bl:Nat):F6 prog 184 #[I5 bc,I5 bl] [[(bc,.cells c.A15 69 (0,0))],[(bl,.cells #[I5 lp] 184 (0,0))]] (fun s=>∀x∈ML,x∈s) (fun i:Int=>#[I4 i]) (NC sc jn c):=by
 have wz:=mL;obtain ⟨ms,vo,sO,yt,mj,ve,sM,y9,ax,qw,gm,q9,qo,ek,af,pq⟩:=hL.ex;intro ly J hA hy s B;refine DK func184 V ntmps184 V ?_;intro u R;refine Zb [0,1,2] ?_;refine A0<|Ze (Bx #[_])<|AD fun by_=>A4<|Zq<|A0<|Zo Wh (Pa #[_,_,_,_,_,_,_,_,_,_] Fk C1 Y) ?_;refine Zc [_] Y call185 Y V (fo c) ?_;rintro _ _ ⟨_,⟨br,rfl,rfl⟩,rfl⟩;refine A4<|AP<|Zb [1,2,3,10] ?_;refine PM (H0:=_) (R:=_) (I:=(fun(pre:List AU) H=>∃s,J (pre.flatMap fun r=>IG sc c.t r 4) s/\H=[[(bc,.cells c.A15 69 (0,0))],[(bl,.cells #[I5 lp] 184 (0,0))],[(by_,.cells #[.func (.yield ly) #[] #[]] 112 (0,0))],s])) (E:=fun x e Hn=>∃bw,e=[(4,I5 bw),(11,.agg x.A16)]/\Hn=[[(bw,.cells x.A16 83 (0,0))]]) V Y call242 (fq c br) (fun _ _ _ _ _=>trivial) Y V Wp (⟨s,B,V⟩) ?ha_2 ?hbd_2 ?hk_2
 case ha_2=>
  intro _ x _ _;refine Zg<|Ze (Al DP #[_,_,_,_,_])<|AD fun b2=>Xe (Xw AW _) ?_;refine Z0<|Li (e:=[(4,_),(11,_)]) (Hn:=[[(_,_)]]) ?_;exact ⟨_,V,V⟩
 case hbd_2=>
  intro l pre x l5 u e9 l8 H1 R1 r9 K hI U;obtain ⟨bw,rfl,rfl⟩:=U;obtain ⟨s,B,rfl⟩:=hI;have j5:=K
  refine AP<|A0<|Zm Y<|A4<|AP<|Zb [12,1,2,3,4] ?_;refine BB (e0:=[(12,_)]) (fun m e H=>∃(n:Nat) (s:List A9),m=4 -n/\(n<=4/\J ((pre.flatMap fun r=>IG sc c.t r 4)++IG sc c.t x n) s)/\e=[(12,I4 (n:Int))]/\H=[s]) (by exact ⟨0,s,rfl,⟨by decide,by rw [show IG sc c.t x 0=[] from rfl,Cp];exact B⟩,rfl,rfl⟩) Wp ?_;rintro _ _ _ ⟨n,s,rfl,⟨y5,B⟩,rfl,rfl⟩;refine A0<|Zv (Au (n:=4) Y Y)<|A4<|Zq<|Av Y (fun qb=>?_) (fun qb=>?_)
  ·
   have j3:=hA _ s B;have cu:=j3 _ ax
   have gq:=j3 _ qw;obtain ⟨pv,cv,gy,_,_⟩:=af c.t (n:Int);have sw:x∈FI c:=by rw [K];simp
   have sj:=p8 x sw n A1;have pz:KD (c.t,(n:Int)):=⟨Uh p9,Uh A1⟩
   have cO:n<4:=by omega
   refine AC<|Zx<|Zq<|AP<|A0<|Zm Y<|A3 Y<|Zq<|Az (n:=13) (0::1::3::7::0::16::0::112::255::0::0::1536::4095::[]) 6144 A6 A6 V<|B3 0 V isAgg184 Y ?_;refine A2 1 V (Ap Y V)<|A2 2 V (AB (off:=0) eN V rfl sizeOf274 Y)<|DI (D':=15) 3 V rfl V (F8 Wo (cu)) (BO isAgg274 Y AM) ?_;refine A2 4 V (AB (off:=0) B8 V rfl A5 Y)<|B3 5 V AE Y ?_;refine A2 6 V (AQ Y)<|A2 7 V (BK (vs:=[(0,_),(1,_)]) (cs:=#[_,_]) Y (AY (pl:=#[(0,1),(1,1)]) lx i6 (fun _=>by kernel_rfl) V))<|DI (D':=511) 8 V rfl V (F8 Wo (gq)) (Dj Sa underlying274 zeroValue283 gm q9 (pz) (gy) Y Y) ?_;refine E6 9 V Wh (AA (cs:=#[_,_,_,_,_]) CH AW Y As AM) ?_;refine A2 10 V (AQ Y)<|Zz (l:=[11])<|B1 [false,true,true,true,true] [(8,(_,_)),(5,(_,_)),(3,(_,_)),(0,(_,_))] V rfl (Zu [_,_] Y S7 Y V (OP x n A1)) ?_ (fun _ _ h=>h.elim) Ag;rintro _ _ ⟨rfl,rfl⟩;refine ⟨FH (by simp [*]) (Zk (FH (by simp [*]) (Zk (AZ)))),?_⟩;refine Zz (l:=[12])<|B1 [false,false,false,false] [] V rfl (Zw [_,_] Y call186 Y V (XQ (.slice pv (sc c.t (n:Int)).length cv) (Dc x n) V)) ?_ Bv Ag;rintro _ _ ⟨_,⟨l9,o8,rfl,rfl⟩,rfl⟩;refine B5<|Ai<|Zn [1,2,3,4,12,27] ?_;refine Zx<|AP<|Zb [1,2,3,4,12,27] ?_;refine gN (H0:=_) (R:=_) (I:=(fun(O:List Int) H=>∃s,J ((pre.flatMap fun r=>IG sc c.t r 4)++IG sc c.t x n++O) s/\H=[[(by_,.cells #[.func (.yield ly) #[] #[]] 112 (0,0))],s])) (E:=fun x e Hn=>e=[(6,I4 x),(28,I4 x)]/\Hn=[]) rfl Wh Y call243 (XR (gy▸af c.t (n:Int)) (hL.len _ _) (hL.asc _ _) (Dc x n) sj l9 o8) (by rintro O _ c9 ⟨s,h1,rfl⟩;intro q hq;have:=hA _ s h1 q hq;simp [this]) Y rfl Wp (⟨s,by simpa using B,rfl⟩) ?ha_7 ?hbd_7 ?hk_7
   case ha_7=>
    intro _ x _ _;refine Zg<|AG Y<|Li (e:=[(6,_),(28,_)]) (Hn:=[]) ?_;exact ⟨V,V⟩
   case hbd_7=>
    intro l pre x l5 u e9 l8 H1 R1 r9 K hI U;obtain ⟨rfl,rfl⟩:=U;obtain ⟨s,B,rfl⟩:=hI;obtain ⟨sJ,qx⟩:=eG (jn:=jn) j5 cO K;have Z:=hy _ _ _ s qx B
    refine AP<|A0<|Zl isAgg112 Y ?_;refine Zm Y<|Ze (GR (vs:=[_]) Y Y (Z) Wp) ?_;rintro _ _ ⟨_,⟨s',rfl,rfl,X⟩,rfl⟩;refine Zv (Br Y)<|A4<|AV Y (fun hb=>by cases hb)<|fun hb=>AC<|A8<|Ez rfl (by exact ⟨s',by rw [<-CA];exact X,rfl⟩)
   intro H2 W;obtain ⟨s,B,rfl⟩:=W;refine Zn [1,2,3,4,12] ?_;refine A8<|A8<|Zx<|Zg<|Ya (n:=1) Y Y<|Zm Y<|Z0<|Zn [12,1,2,3,4] ?_;refine Aa (e':=[(12,_)]) (by exact ⟨n+1,s,rfl,⟨by omega,by rw [Rs,<-CA];exact B⟩,rfl,rfl⟩)
  obtain rfl:n=4:=by omega
  refine Ay<|Zt<|Zt<|AR<|A8<|Ez rfl (by exact ⟨s,by rw [OK,ml];exact B,rfl⟩)
 intro D1 H2 W;obtain ⟨s,B,rfl⟩:=W;refine Zn [1,2,3] ?_;refine A8<|Zx<|Zq ?_;have ic:=hA _ s B
 have bn:=ic _ ax;have d9:=ic _ qo
 obtain ⟨pj,cj,qz,⟨wo,vw⟩,pg⟩:=pq c.t;refine Az (n:=9) (0::1::3::7::0::16::63::127::0::[]) 0 A6 A6 V<|B3 0 V isAgg184 Y ?_;refine A2 1 V (Ap Y V)<|A2 2 V (AB (off:=1) eN V rfl sizeOf275 Y)<|DI (D':=15) 3 V rfl V (F8 Wo (bn)) (BO isAgg275 Y AM) ?_;refine A2 4 V (AB (off:=0) B8 V rfl A5 Y)<|B3 5 V AE Y ?_;refine DI (D':=127) 6 V rfl V (F8 Wo (d9)) (Dj (CX Cl (D:=fun _=>True)) underlying275 zeroValue36 ek (fun _ _=>trivial) (trivial) (qz) Y Y) ?_;refine A2 7 V (Ab Cd Y)<|A2 8 V (AQ Y)<|Ai<|Zx<|AP<|Zb [42,3,40,41] ?_;refine BB (e0:=[(42,_)]) (fun m e H=>∃(k:Nat) (s:List A9),m=(jn c.t).length -k/\(k<=(jn c.t).length/\J ((FI c).flatMap (fun r=>IG sc c.t r 4)++(jn c.t).take k) s)/\e=[(42,I4 (k:Int))]/\H=[s]) (by exact ⟨0,s,V,⟨C0 _,by simpa using B⟩,V,V⟩) Wp ?_;rintro _ _ _ ⟨k,s,rfl,⟨hk,B⟩,rfl,rfl⟩;refine A0<|Zv (Au Y Y)<|A4<|Zq<|Av Y (fun qa=>?_) (fun qa=>?_)
 ·
  obtain ⟨kv,G⟩:∃x,(jn c.t)[k]?=some x:=⟨_,B4 A1⟩;obtain ⟨g,off,cur,T,zz,rfl,ql,o9⟩:=pg k kv G;have qj:=hA _ s B _ ql
  have Z:=hy _ _ _ s (show NC sc jn c=((FI c).flatMap (fun r=>IG sc c.t r 4)++(jn c.t).take k)++kv::(jn c.t).drop (k+1) by unfold NC;rw [CA,<-OG G]) B;refine AC<|Zx<|Zq<|AP<|A0<|BX (CW Cd A5 Y Y de)<|CO (Gf Wo (qj)) (BO AE Y (by exact o9)) rfl rfl ?_;refine A3 Y<|A0<|Zl isAgg112 Y ?_;refine Zm Y<|Ze (GR (vs:=[_]) Y Y (Z) Wp) ?_;rintro _ _ ⟨_,⟨s',rfl,rfl,X⟩,rfl⟩;refine Zv (Br Y)<|A4<|AV Y (fun hb=>by cases hb)<|fun hb=>AC<|A8<|Zx<|Zg<|Ya (n:=1) Y Y<|Zm Y<|Z0<|Zn [42,3,40,41] ?_;refine Aa (e':=[(42,_)]) (by exact ⟨k+1,s',rfl,⟨by omega,by rw [Bh G,<-CA];exact X⟩,rfl,rfl⟩)
 obtain rfl:k=(jn c.t).length:=by omega
 rw [FF]at B;refine Ay<|Zt<|Zt<|AR<|GI V (yg results184) Wo (by exact ⟨s,V,B⟩)
theorem ZI(h:l[i]?=some x):((CG l).drop (i*4)).take 4=[I4 x.lo,I4 x.hi,I4 x.rc,I4 x.id]:=by
 induction l generalizing i with
 |nil=>simp at h
 |cons a l ih=>
  cases i with
  |zero=>simp at h;subst h;rfl
  |succ i=>
   have m:l[i]?=some x:=by simpa using h
   rw [show(i+1)*4=i*4+4 by omega];exact ih m
theorem ZF{s:List A9}(h:Bc 4 282 v l.length (CG l) s)(U:∀c∈s,c∈M):UA M v l:=by
 rcases h with⟨_,⟨rfl,h0,_⟩|⟨g,cap,cur,z,rfl,rfl,G,J,K,I,O⟩⟩
 · have m:=LN h0
   subst m;exact ⟨none,0,V,⟨C0 _,CT _⟩,fun i x B=>by simp at B⟩
 · refine ⟨_,cap,rfl,⟨by omega,G⟩,fun i x B=>?_⟩
   have hi:=(BE.1 B).1;refine ⟨g,0,cur,_,z,V,U _ (BT.2 V),by omega,?_⟩;have m:=ZI B
   rw [<-I,eC,TX]at m;apply HI.1;rw [Array.toList_extract,pH,D2,show i*4+4 -i*4=4 by omega];rw [show min 4 (l.length*4 -i*4)=4 by omega]at m;exact m
theorem ZP{l:List Int}{s:List A9}(h:Bc 1 3 v l.length (l.map fun i=>Value.int .i64 i) s)(U:∀c∈s,c∈M):uj M v l:=by
 rcases h with⟨_,⟨rfl,h0,_⟩|⟨g,cap,cur,z,rfl,rfl,G,J,K,I,O⟩⟩
 · have m:=LN h0
   subst m;exact ⟨none,0,V,⟨C0 _,CT _⟩,fun i x B=>by simp at B⟩
 · refine ⟨_,cap,rfl,⟨by omega,G⟩,fun i x B=>?_⟩
   have hi:=(BE.1 B).1;refine ⟨g,0,cur,_,z,V,U _ (BT.2 V),?_⟩;have m:(l.map fun i=>Value.int .i64 i)[i]?=some (I4 x):=by rw [DH,B];rfl
   rw [<-I,H3,AK A1]at m;simpa using m
structure JK(qs:List (Int×QM))(sc:Int->Int->List IvM)(jn:Int->List Int):Prop where
 scan:∀a b v i,i∈Ii v (sc a b)↔∃x∈qs,x.1=i/\plQ x=(a,b)/\x.2.lo<=v/\v<=x.2.hi
 join:∀t i,i∈jn t↔∃x∈qs,x.1=i/\x.2.kd=7/\x.2.ot=t
 small:∀t,(jn t).length<=1000000
theorem yj{x y:Int×QM}(h:(x.1,(.agg #[I4 x.2.kd,I4 x.2.tb,I4 x.2.cl,I4 x.2.lo,I4 x.2.hi,I4 x.2.bq,I4 x.2.ot]:Value))=(y.1,(.agg #[I4 y.2.kd,I4 y.2.tb,I4 y.2.cl,I4 y.2.lo,I4 y.2.hi,I4 y.2.bq,I4 y.2.ot]:Value))):x=y:=by
 obtain ⟨a,q⟩:=x;obtain ⟨b,r⟩:=y;obtain ⟨m,q2,B,G,I,J,K⟩:=q;obtain ⟨O,U,W,X,Z,r6,r7⟩:=r;simp at h;simp [h]
variable{qs:List (Int×QM)}{es:Array MapEntry}{ck:Nat}
theorem oO(m:Ed qs es ck lm)(I:av lm js vs)(J:(DN lm js).Perm lm)(x:Int×QM):x∈vs↔x∈qs:=by
 rw [I.2];constructor
 · rintro ⟨j,_,G⟩
   obtain ⟨y,O,B⟩:=(m.mem _).1 (DG G);rw [yj B];exact O
 · intro K
   have h:=J.mem_iff.2 ((m.mem _).2 ⟨x,K,rfl⟩);obtain ⟨j,G,B⟩:=X1.1 h;exact ⟨j,G,B⟩
theorem kw{κ:Type} [DecidableEq κ]{l m:List (κ×Value)}(J:(l.map (·.1)).Nodup)(K:(m.map (·.1)).Nodup)(h:∀p,p∈l↔p∈m)(k:κ):EF k l=EF k m:=by
 by_cases G:∃v,(k,v)∈l
 · obtain ⟨v,hv⟩:=G
   rw [Cw J hv,Cw K ((h _).1 hv)]
 · rw [DV (l:=l) fun p I B=>G ⟨p.2,by rw [<-B];exact I⟩,DV (l:=m) fun p I B=>G ⟨p.2,by rw [<-B];exact (h p).2 I⟩]
theorem mg(h:Qu o l)(v i:Int):i∈Ii v l↔∃x∈o,x.lo<=v/\v<=x.hi/\x.id=i:=by
 obtain ⟨o',I,W,m,U⟩:=h;rw [nC (Z9 m W) U];constructor
 · rintro ⟨x,B,K,h2,O⟩
   obtain ⟨y,G,e1,e2,J⟩:=(Z8 (a:=x.lo) (b:=x.hi) (i:=x.id) m).1 ⟨x,B,rfl,rfl,rfl⟩;exact ⟨y,I.mem_iff.1 G,by omega,by omega,by omega⟩
 · rintro ⟨x,B,K,h2,O⟩
   obtain ⟨y,G,e1,e2,J⟩:=(Z8 (a:=x.lo) (b:=x.hi) (i:=x.id) m).2 ⟨x,I.mem_iff.2 B,rfl,rfl,rfl⟩;exact ⟨y,G,by omega,by omega,by omega⟩
theorem mh(h:Qu o l):l.length=o.length:=by
 obtain ⟨o',G,J,B,I⟩:=h;have m:=congrArg List.length B
 rw [B2,B2]at m;rw [m];exact G.length_eq
theorem eT(l9:Ed qs es ck lm)(p8:js.length<=1000000)(X:av lm js vs)(ic:(DN lm js).Perm lm)
 {gm:List A9}(cO:(lmA.map (·.1)).Nodup)(j5:ul vs lmA gm){O:Array MapEntry}{J:Nat}{af:List (Int×Value)}{MJ:List A9}(l8:Cj (fun n:Int=>Value.int .i64 n) O J af)(kv:bA vs af MJ)
 {U:Array MapEntry}{K:Nat}{m:List ((Int×Int)×Value)}{MS:List A9}(d9:Cj K2 U K m)(gq:∀p∈lmA,KD p.1)(gy:∀p,p∈m↔∃k∈ks,lmA[k]?=some p)
 (ax:UC 4 282 lmA (fun k=>(g k).length) (fun k=>CG (g k)) MS)(l5:∀j p,lmA[j]?=some p->if j∈ks then Qu (Ea vs p.1) (g p.1)else g p.1=Ea vs p.1)(j3:(DN lmA ks).Perm lmA)
 {mz mj:Nat}(h1:(lp,Obj.cells #[.map (some mz),.map (some mj)] 277 (0,0))∈ML)(h2:(mz,Obj.map U K)∈ML)(h3:(mj,Obj.map O J)∈ML)(h4:∀c∈MS,c∈ML)(h5:∀c∈MJ,c∈ML):
 PO (fun a b=>g (a,b)) (FM vs) lp ML/\JK qs (fun a b=>g (a,b)) (FM vs):=by
 have hv:=oO l9 X ic;have cu:∀j p,lmA[j]?=some p->j∈ks:=fun j p hj=>by
  obtain ⟨i,hi,he⟩:=X1.1 (j3.mem_iff.2 (DG hj));obtain rfl:=Kq cO he hj rfl;exact hi
 have hS:∀p,p∈m↔p∈lmA:=fun p=>by
  rw [gy];constructor
  · rintro ⟨k,_,hk⟩;exact DG hk
  · intro B
    obtain ⟨i,hi⟩:=GW B;exact ⟨i,cu i p hi,hi⟩
 have bn:∀k,EF k m=EF k lmA:=kw d9.keys cO hS;have hD:∀k,Qu (Ea vs k) (g k):=fun k=>by
  by_cases hk:∃v,(k,v)∈lmA
  · obtain ⟨v,o9⟩:=hk
    obtain ⟨i,hi⟩:=GW o9;have h:=l5 i _ hi
    rw [AK (cu i _ hi)]at h;exact h
  · have hn:EF k lmA=none:=DV fun p B he=>hk ⟨p.2,by rw [<-he];exact B⟩
    obtain ⟨s,W,_⟩:=ax.row k;obtain ⟨s',ek,_⟩:=j5.row k;rw [hn]at W ek;have e1:(g k).length=0:=by
     rcases W with⟨_,⟨_,h,_⟩|⟨g9,cap,cur,z,h,_⟩⟩
     · exact h
     · simp at h
    have e2:(Ea vs k).length=0:=by
     rcases ek with⟨_,⟨_,h,_⟩|⟨g9,cap,cur,z,h,_⟩⟩
     · exact h
     · simp at h
    rw [LN e1,LN e2];exact ⟨[],.refl _,.nil,V,fun j k x y _ h=>absurd h (eA k)⟩
 refine ⟨⟨⟨mz,U,K,m,mj,O,J,af,h1,h2,d9,fun p B=>gq p ((hS p).1 B),h3,l8,fun a b=>?_,fun t=>?_⟩,fun a b=>?_,fun a b=>?_⟩,⟨fun a b v i=>?_,fun t i=>?_,fun t=>?_⟩⟩
 · obtain ⟨s,W,hs⟩:=ax.row (a,b)
   rw [bn];exact ZF W fun c hc=>h4 c (hs c hc)
 · obtain ⟨s,W,hs⟩:=kv.row t
   exact ZP W fun c hc=>h5 c (hs c hc)
 · obtain ⟨o',B,o8,hk,W⟩:=hD (a,b)
   exact Z9 hk o8
 · have:=mh (hD (a,b))
   have:=TK vs (a,b);have:=X.1
   show(g (a,b)).length<=1000000;omega
 · rw [mg (hD (a,b))]
   unfold Ea;simp only [Bk,F1,G2];constructor
   · rintro ⟨_,⟨x,⟨Z,B⟩,rfl⟩,G,I,a3⟩
     exact ⟨x,(hv x).1 Z,a3,B,G,I⟩
   · rintro ⟨x,Z,a3,B,G,I⟩
     exact ⟨_,⟨x,⟨(hv x).2 Z,B⟩,V⟩,G,I,a3⟩
 · unfold FM
   simp only [Bk,F1,G2];constructor
   · rintro ⟨x,⟨Z,G,I⟩,rfl⟩
     exact ⟨x,(hv x).1 Z,V,G,I⟩
   · rintro ⟨x,Z,rfl,G,I⟩
     exact ⟨x,⟨(hv x).2 Z,G,I⟩,V⟩
 · have:=ZQ vs t
   have:=X.1;omega
variable{mp ip:Nat}
theorem lC(W:Ed qs es ck lm)(hq:∀x∈qs,BI x.2)(hl:qs.length<=500):Ba prog 111 #[I5 ip] [[(ip,.cells #[.map (some mp),.pointer none] 186 (0,0))],[(mp,.map es ck)]] (fun r H'=>∃lp ML sc jn,r=I5 lp/\PO sc jn lp ML/\JK qs sc jn/\H'=[[(ip,.cells #[.map (some mp),I5 lp] 186 (0,0))],[(mp,.map es ck)],ML]):=by
 have hml:=mL;have Y2:=W.len
 refine Se func111 ntmps111 [0] ?_;intro u R;refine A0<|A3 Y<|Zq<|A0<|Zm Y<|Zp Y V<|Zh 1 PF V rfl Z2 Y<|Zl isAgg184 Y ?_;refine Zv (NA underlying184 Y Y)<|A4<|AV Y (fun hb=>by cases hb)<|fun hb=>AC<|Zx<|A0<|Ze (DR)<|AD fun ma=>A3 Y<|A0<|Ze (DR)<|AD fun mz=>Ze (DR)<|AD fun mj=>Zv (BK (vs:=[(0,_),(1,_)]) (cs:=#[_,_]) Y (AY (pl:=#[(0,1),(1,1)]) zeroValue277 eN (fun _=>by kernel_rfl) V))<|Ze (Bx #[_,_])<|AD fun lp=>AG Y<|Zn [0,3,4] ?_;refine Zx<|Zq<|A0<|Zm Y<|Zp Y V<|Zh 0 PF V rfl db Y<|Zl dd Y ?_;refine Ze (NK cS Y Wh)<|AD fun ib=>A4<|AP<|BV<|BV<|BV<|Zb [0,3,4,32] ?_;refine BB (e0:=[]) (fun m e H=>∃(js:List Nat) (seen:Array Nat) (vs:List (Int×QM)) (Z:Array MapEntry) (U:Nat) (lmA:List ((Int×Int)×Value)) (J:Array MapEntry) (G:Nat) (kv:List (Int×Value)) (X MJ MK:List A9),m=lm.length -js.length/\(Ij es js seen/\av lm js vs/\Cj K2 Z U lmA/\(∀p∈lmA,KD p.1)/\ul vs lmA X/\Cj (fun n:Int=>Value.int .i64 n) J G kv/\bA vs kv (MJ++MK))/\e=[]/\H=[[(ib,.mapIter (some mp) ck seen ck)],[(ma,.map Z U)],[(mj,.map J G)],X,MJ,MK]) (by exact ⟨[],#[],[],#[],0,[],#[],0,[],[],[],[],V,⟨KC _,⟨V,fun x=>by simp⟩,ER _,fun p hp=>by simp at hp,aG _ _,ER _,aG _ _⟩,V,V⟩) Wp ?_;rintro _ _ _ ⟨js,seen,vs,Z,U,lmA,J,G,kv,X,MJ,MK,rfl,⟨gq,j5,B,d9,pg,ek,pq⟩,rfl,rfl⟩;have Gl:=F3 es.size js gq.nodup gq.lt
 rw [W.map.size]at Gl;refine A0<|Ze (PU W.map gq Y Wo Wh) ?_;rintro _ _ ql;rcases ql with⟨af,rfl,rfl⟩|⟨jn,pn,seen2,hpn,hjn,hi2,rfl,rfl⟩
 ·
  have zt:=af;have l9:=gq
  refine Zd Y V<|A4<|Zq<|AV Y (fun hb=>by cases hb)<|fun hb=>Ay<|Zt<|Zt<|AR<|Zx<|Zq<|A0<|Zm Y<|Ze (NK underlying273 Y Wh)<|AD fun ic=>A4<|AP<|BV<|Zb [0,4,79] ?_;refine BB (e0:=[]) (fun m e H=>∃(ks:List Nat) (seen:Array Nat) (g:Int×Int->List IvM) (K:Array MapEntry) (I:Nat) (l5:List ((Int×Int)×Value)) (X MB:List A9),m=lmA.length -ks.length/\(Ij Z ks seen/\Cj K2 K I l5/\(∀p,p∈l5↔∃k∈ks,lmA[k]?=some p)/\UC 4 282 lmA (fun k=>(g k).length) (fun k=>CG (g k)) (X++MB)/\(∀j p,lmA[j]?=some p->if j∈ks then Qu (Ea vs p.1) (g p.1)else g p.1=Ea vs p.1))/\e=[]/\H=[[(ic,.mapIter (some ma) U seen U)],[(mz,.map K I)],X,MB]) (by exact ⟨[],#[],Ea vs,#[],0,[],X,[],rfl,⟨KC _,ER _,fun p=>by simp,by rw [Cp];exact pg,fun j p _=>by simp⟩,rfl,rfl⟩) Wp ?_;rintro _ _ _ ⟨ks,seen,g,K,I,l5,X,MB,rfl,⟨cO,vz,p9,sM,pz⟩,rfl,rfl⟩;have HZ:=F3 Z.size ks cO.nodup cO.lt
  rw [B.size]at HZ;refine A0<|Ze (PU B cO Y Wo Wh) ?_;rintro _ _ ql;rcases ql with⟨af,rfl,rfl⟩|⟨jn,pn,seen2,hpn,hjn,hi2,rfl,rfl⟩
  ·
   refine Zd Y V<|A4<|Zq<|AV Y (fun hb=>by cases hb)<|fun hb=>Ay<|Zt<|Zt<|AR<|Zx<|Zq<|CK (s1:=[(lp,Obj.cells #[.map (some mz),.map (some mj)] 277 (0,0))]) (s2:=[(mz,Obj.map K I)]) Wo Wo ?_;refine CK (s1:=([(lp,Obj.cells #[.map (some mz),.map (some mj)] 277 (0,0))]++[(mz,Obj.map K I)])) (s2:=[(mj,Obj.map J G)]) Wo Wo ?_;refine CK (s1:=(([(lp,Obj.cells #[.map (some mz),.map (some mj)] 277 (0,0))]++[(mz,Obj.map K I)])++[(mj,Obj.map J G)])) (s2:=X) Wo Wo ?_;refine CK (s1:=((([(lp,Obj.cells #[.map (some mz),.map (some mj)] 277 (0,0))]++[(mz,Obj.map K I)])++[(mj,Obj.map J G)])++X)) (s2:=MB) Wo Wo ?_;refine CK (s1:=(((([(lp,Obj.cells #[.map (some mz),.map (some mj)] 277 (0,0))]++[(mz,Obj.map K I)])++[(mj,Obj.map J G)])++X)++MB)) (s2:=MJ) Wo Wo ?_;refine CK (s1:=((((([(lp,Obj.cells #[.map (some mz),.map (some mj)] 277 (0,0))]++[(mz,Obj.map K I)])++[(mj,Obj.map J G)])++X)++MB)++MJ)) (s2:=MK) Wo Wo ?_;refine Zg<|Zm Y<|Zm Y<|Zp Y V<|Zh 1 PF V rfl Z2 Y<|Xe (Zs Z2 Y Y V) ?_;refine A4<|A0<|Zm Y<|A3 Y<|AJ<|AO V results111 Y (by
    have Gw:=F3 es.size js l9.nodup l9.lt;rw [W.map.size]at Gw;obtain ⟨zm,zn⟩:=eT W A1 j5 zt B.keys pg ek pq vz d9 p9 sM pz af (lp:=lp) (mz:=mz) (mj:=mj) (ML:=(((((([(lp,Obj.cells #[.map (some mz),.map (some mj)] 277 (0,0))]++[(mz,Obj.map K I)])++[(mj,Obj.map J G)])++X)++MB)++MJ)++MK)) B0 B0 B0 (fun c hc=>by simp only [B9]at hc⊢;rcases hc with hc|hc<;>simp [hc]) (fun c hc=>by simp only [B9]at hc⊢;rcases hc with hc|hc<;>simp [hc]);exact ⟨lp,_,_,_,V,zm,zn,V⟩)
  refine Zd Y V<|A4<|Zq<|AV Y (fun hb=>?_) (fun hb=>?_)
  ·
   have vo:=F3 Z.size (ks++[jn]) hi2.nodup hi2.lt;rw [B.size,B7,E0]at vo;have Mx:(ks++[jn]).length=ks.length+1:=by rw [B7];rfl
   refine AC<|Zx<|AP<|A0<|CO (cs:=[(ic,.mapIter (some ma) U seen2 U),(ma,.map Z U)]) B0 (JA B hi2 hpn Y) V rfl ?_;refine Zd Y V<|Zd Y V<|Ze (Al lx #[_,_])<|AD fun kb=>Xe (Xw sizeOf279 #[I4 pn.1.1,I4 pn.1.2]) ?_;refine AG Y<|Zx ?_;have zu:g pn.1=Ea vs pn.1:=by have h:=pz jn pn hpn;rwa [AH hjn]at h
   have zy:(g pn.1).length<=1000000:=by rw [zu];have:=TK vs pn.1;have:=j5.1;omega
   have Hf:∀p∈l5,KD p.1:=fun p hp=>by
    obtain ⟨k,_,hk⟩:=(p9 p).1 hp;exact d9 p (DG hk)
   have LC:KD pn.1:=d9 pn (DG hpn);obtain ⟨sA,cu,O,ax,gm⟩:=QD B.keys sM pn.1;rw [Cw B.keys (DG hpn)]at O;refine CK (s1:=X) (s2:=MB) Wo Wo ?_;refine U3 (M:=X++MB) Wo ax ?_;refine Az (n:=8) (0::1::3::7::0::0::32::127::[]) 192 A6 A6 V<|A2 0 V (AQ Y)<|A2 1 V (Ap Y V)<|A2 2 V (AB (off:=0) eN V rfl sizeOf274 Y)<|B3 3 V isAgg274 Y ?_;refine E6 4 V Wh (AA (cs:=#[I4 pn.1.1,I4 pn.1.2]) isAgg279 sizeOf279 Y Wn (by exact BN V)) ?_;refine A2 5 V (AQ Y)<|Zz (l:=[6])<|B1 [true,true] [(4,(_,_)),(3,(_,_))] V rfl (Zw [_] Y call183 Y V (eD _ (g pn.1) sA zy O)) ?_ Bv Ag;rintro _ _ ⟨_,⟨rfl,s2,l2,o2,P5,P7,LD,za,P6,rfl⟩,rfl⟩;refine B5<|Yw 7 255 V (F9 Sa underlying274 vz Hf (LC) Y Y Y Wo) ?_;rintro _ _ ⟨rfl,zk,zf,Pn,ME,MP,rfl⟩;refine Ai<|Zn [0,4,79] ?_;refine A8<|Zn [0,4,79] ?_;refine Aa (e':=[]) (by exact ⟨ks++[jn],seen2,fun k=>if k=pn.1 then l2 else g k,zk,zf,Pn,s2,cu,V,⟨hi2,ME,bZ B.keys hpn hjn p9 MP,xH (gm pn.2 s2 _ _ lmA B.keys (kz B.keys hpn) P6),fU B.keys hpn hjn pz ⟨o2,P5,P7,LD,za⟩⟩,V,V⟩)
  cases hb
 obtain ⟨x,hx,rfl⟩:=(W.mem pn).1 (DG hpn);have qx:=hq x hx
 refine Zd Y V<|A4<|Zq<|AV Y (fun hb=>?_) (fun hb=>?_)
 ·
  have sO:=F3 es.size (js++[jn]) hi2.nodup hi2.lt;rw [W.map.size,B7,E0]at sO;have Mx:(js++[jn]).length=js.length+1:=by rw [B7];rfl
  have hvj:=j5.1;have Ty:=TK vs (plQ x)
  have Tp:=ZQ vs x.2.ot;have p8:=bg j5 hpn
  refine AC<|Zx<|AP<|A0<|CO (cs:=[(ib,.mapIter (some mp) ck seen2 ck),(mp,.map es ck)]) B0 (JA W.map hi2 hpn Y) V rfl ?_;refine Zd Y V<|Zd Y V<|Ze (Al MY #[_,_,_,_,_,_,_])<|AD fun xb=>Za Y<|Xe (Xw C7 #[I4 x.2.kd,I4 x.2.tb,I4 x.2.cl,I4 x.2.lo,I4 x.2.hi,I4 x.2.bq,I4 x.2.ot]) ?_;refine A4<|A0<|Zo Wh (AA (cs:=#[I4 x.2.kd,I4 x.2.tb,I4 x.2.cl,I4 x.2.lo,I4 x.2.hi,I4 x.2.bq,I4 x.2.ot]) Dg C7 Y Wn (by exact BN V)) ?_;refine Zc [_] Y call178 Y V (jg x.2 qx) ?_;rintro _ _ ⟨_,⟨rfl,rfl⟩,rfl⟩;refine Zm Y<|Zd Y V<|Zd Y V<|Zd Y V<|Zd Y V<|Za Y<|Za Y<|Za Y<|AG Y<|Zn [0,3,4,5,6,7,8,9,10,32] ?_;refine Zx<|A0<|Zm Y<|Zm Y<|Zv (BK (vs:=[(0,_),(1,_)]) (cs:=#[_,_]) Y (AY (pl:=#[(0,1),(1,1)]) lx i6 (fun _=>by kernel_rfl) V))<|Ze (Al lx #[_,_])<|AD fun pb=>Xe (BM sizeOf279 Y Y (by(simp [Value.oneCell',Value.cells];done)) Wu (by exact (rfl:_=(#[I4 x.2.tb,I4 x.2.cl]:Array Value))) E7 Wn (by exact BA _)) ?_;refine A4<|Zq ?_;obtain ⟨sA,cu,O,ax,gm⟩:=mU B.keys pg x;obtain ⟨qo,Rl,yt⟩:=O.form;rw [yt]at O;have q9:KD (plQ x):=⟨Uh (by have:=qx.1;simp [plQ];omega),Uh (by have:=qx.2.1;simp [plQ];omega)⟩
  refine U3 (M:=X) Wo ax ?_;refine Zg<|Zm Y<|Zo Wh (AA (cs:=#[I4 x.2.tb,I4 x.2.cl]) isAgg279 sizeOf279 Y Wn (by exact BN V)) ?_;refine Zm Y<|Zm Y<|Zm Y<|Zv (BK (vs:=[(0,_),(1,_),(3,_)]) (cs:=#[_,_,_,_]) Y (AY (pl:=#[(0,1),(1,1),(2,1),(3,1)]) zeroValue282 W7 (fun _=>by kernel_rfl) V))<|Ze (Ah (vs:=[_]) (cs:=[_,_,_,_]) Ys N5 zeroValue282 Y V rfl V rfl V)<|AD fun gb=>Ze (KQ Sa underlying273 zeroValue280 B d9 (q9) (yt) Y Y Wo) ?_;rintro _ _ ⟨Tg,Tc,lm3,j3,st3,rfl,MC,FT,zq,wz,rfl⟩;refine Zd Y V<|Ze (BQ (by_:=32) (sz:=4) Ys (V:Tryz.prog.info? 282=some Tryz.t282) V rfl V rfl Y (O) Y (DJ 4 gb 1 1 282 (0,0) [I4 (Qz x).lo,I4 (Qz x).hi,I4 (Qz x).rc,I4 (Qz x).id] V) Wo Wo Fm A1 A1) ?_;rintro _ _ ⟨r9,o9,rfl⟩;have wo:=BR o9 (n':=(Ea vs (plQ x)++[Qz x]).length) (xs':=CG (Ea vs (plQ x)++[Qz x])) (by rw [B7];rfl) (by rw [ZJ];rfl)
  obtain ⟨Tn,Ta,rfl⟩:=o9.form;refine Zd Y V<|Ze (Il MC FT zq Y Y Y Wo) ?_;rintro _ _ ⟨rfl,sw,sj,qz,qa,y5,rfl⟩;refine Z0<|Zn [0,3,4,5,6,32] ?_;refine Zx<|Zq ?_;have ve:∀p∈qz,KD p.1:=fun p hp=>by
   rcases (y5 p).1 hp with rfl|⟨h,_⟩
   · exact q9
   · rcases (wz p).1 h with rfl|⟨h,_⟩
     · exact q9
     · exact d9 p h
  have l8:=gm _ _ _ qa.keys (fun p=>by rw [y5,wz];exact OA _ _ _ _) wo;refine CK (s1:=r9) (s2:=cu) Wo Wo ?_;refine Zg<|Zh 0 C6 V rfl A5 Y<|Zl AE Y ?_;refine Zv (CP Y Y)<|A4<|Av Y (fun h7=>?_) (fun h7=>?_)
  ·
   obtain ⟨sJ,zb,bn,gy,qw⟩:=mP ek.keys pq x h7;obtain ⟨qj,Qe,y9⟩:=bn.form;rw [y9]at bn;refine CK (s1:=MJ) (s2:=MK) Wo Wo ?_;refine U3 (M:=MJ++MK) Wo gy ?_;refine Az (n:=17) (0::1::3::7::0::16::0::64::192::448::0::1024::4032::0::8192::32704::65535::[]) 114688 A6 A6 V<|A2 0 V (AQ Y)<|A2 1 V (Ap Y V)<|A2 2 V (AB (off:=1) eN V rfl sizeOf275 Y)<|B3 3 V isAgg275 Y ?_;refine A2 4 V (AB (off:=6) C6 V rfl A5 Y)<|B3 5 V AE Y ?_;refine A2 6 V (AQ Y)<|A2 7 V (Ap Y V)<|A2 8 V (AB (off:=1) eN V rfl sizeOf275 Y)<|B3 9 V isAgg275 Y ?_;refine A2 10 V (AB (off:=6) C6 V rfl A5 Y)<|B3 11 V AE Y ?_;refine E6 12 V Wh (Dj (CX Cl (D:=fun _=>True)) underlying275 zeroValue36 ek (fun _ _=>trivial) (trivial) (y9) Y Y) ?_;refine A2 13 V (AQ Y)<|Zz (l:=[14])<|B1 [true,true,true,true,true] [(12,(_,_)),(11,(_,_)),(9,(_,_)),(5,(_,_)),(3,(_,_))] V rfl (Ah (vs:=[_]) (cs:=[_]) Cd A5 Gk Y V rfl V rfl V) ?_ (fun _ _ h=>h.elim) Ag;rintro _ _ ⟨gj,rfl,rfl⟩;refine B5<|Yz 15 32704 65535 [12,11,9,5,3] [false,false,false,true,true] [(5,(_,_)),(3,(_,_))] V Y V rfl V rfl (BQ (by_:=8) (sz:=1) Cd (V:Tryz.prog.info? 3=some Tryz.t3) V rfl V rfl Y (bn) Y (DJ 1 gj 1 1 3 (0,0) [I4 x.1] V) Wo Wo Fm A1 A1) ?_;rintro _ _ ⟨Qd,o8,rfl⟩;refine ⟨Zk (Zk (AZ)),?_⟩;have qb:=BR o8 (n':=(FM vs x.2.ot++[x.1]).length) (xs':=(FM vs x.2.ot++[x.1]).map fun i=>Value.int .i64 i) (by rw [B7];rfl) (by rw [BW];rfl)
   obtain ⟨Tm,T9,rfl⟩:=o8.form;refine Yw 16 131071 V (F9 (CX Cl (D:=fun _=>True)) underlying275 ek (fun _ _=>trivial) (trivial) Y Y Y Wo) ?_;rintro _ _ ⟨rfl,zl,zi,Ps,vw,MS,rfl⟩;refine Ai<|Zn [0,3,4,32] ?_;refine A8<|Zn [0,3,4,32] ?_;refine Aa (e':=[]) (by exact ⟨js++[jn],seen2,vs++[x],sw,sj,qz,zl,zi,Ps,r9++cu,Qd,zb,V,⟨hi2,p8,qa,ve,l8,vw,qw _ _ _ vw.keys MS qb⟩,V,V⟩)
  refine AC<|A8<|Zn [0,3,4,32] ?_;refine Aa (e':=[]) (by exact ⟨js++[jn],seen2,vs++[x],sw,sj,qz,J,G,kv,r9++cu,MJ,MK,V,⟨hi2,p8,qa,ve,l8,ek,mR pq x h7⟩,V,V⟩)
 cases hb
theorem lD:Ba prog 111 #[I5 ip] [[(ip,.cells #[.map (some mp),I5 lp] 186 (0,0))]] (fun r H'=>r=I5 lp/\H'=[[(ip,.cells #[.map (some mp),I5 lp] 186 (0,0))]]):=by
 refine Se func111 ntmps111 [0] ?_;intro u R;refine A0<|A3 Y<|Zq<|A0<|Zm Y<|Zp Y V<|Zh 1 PF V rfl Z2 Y<|Zl isAgg184 Y ?_;refine Zv (N9 underlying184 Y Y)<|A4<|AV Y (fun m=>?_) (fun m=>?_)
 ·
  refine A0<|Zm Y<|Zp Y V<|Zh 1 PF V rfl Z2 Y<|Zl isAgg184 Y ?_;refine A3 Y<|AJ<|Zt<|AO V results111 Y (by exact ⟨V,V⟩)
 cases m
theorem Ht{r:AU}:r∈FI c↔(c.had=true/\r=⟨c.t,c.k,c.o⟩)\/(c.has=true/\r=⟨c.t,c.k,c.n⟩):=by
 unfold FI IX;rw [B9];cases c.had<;>cases c.has<;>simp
theorem NQ(h:c.ok){r:AU}(G:r∈FI c):r.ok:=by
 obtain ⟨_,h2,_,_⟩:=h;rcases Ht.1 G with⟨m,rfl⟩|⟨m,rfl⟩
 · have e:c.before=⟨c.t,c.k,c.o⟩:=by unfold Chg.before;rw [AK m]
   rw [e]at h2;exact a7 fun B=>h2 (.inl ⟨m,B⟩)
 · have e:c.after=⟨c.t,c.k,c.n⟩:=by unfold Chg.after;rw [AK m]
   rw [e]at h2;exact a7 fun B=>h2 (.inr ⟨m,B⟩)
theorem bN(h:c.ok):∀r∈FI c,∀n:Nat,n<4->-1000000000000<=Dc r n/\Dc r n<=1000000000000:=fun r G n _=>by
 obtain ⟨⟨m,h2,B⟩,I,J⟩:=NQ h G;simp only [inV]at m h2 B;unfold Dc;split
 · omega
 · split
   · omega
   · split<;>omega
theorem bP(h:c.ok):0<=c.t/\c.t<=3:=by
 have h0:c.had=true\/c.has=true:=by
  obtain ⟨m,_⟩:=h;cases e1:c.had<;>cases e2:c.has<;>simp_all
 rcases h0 with h0|h0
 · exact (NQ h (Ht.2 (.inl ⟨h0,rfl⟩))).2.1
 · exact (NQ h (Ht.2 (.inr ⟨h0,rfl⟩))).2.1
theorem xY{q:QM}(h:Ny q c=true):∃r∈FI c,inQ q r=true:=by
 unfold Ny bfQ afQ Ho at h;rw [RW]at h;rcases h with h|h
 · split at h
   · rename_i h1
     rw [Fo]at h1;exact ⟨_,Ht.2 (.inl ⟨h1.1,V⟩),h1.2⟩
   · cases h
 · split at h
   · rename_i h1
     rw [Fo]at h1;exact ⟨_,Ht.2 (.inr ⟨h1.1,V⟩),h1.2⟩
   · cases h
theorem jW{q:QM}(G:BI q)(h:Ce q c=true):Ny q c=true\/(q.kd=7/\c.t=q.ot):=by
 have B:Ny q c=false->UT q c=false/\mQ q (bfQ q c)=mQ q (afQ q c):=fun h=>by
  unfold Ny at h;unfold UT;rw [fj]at h;obtain ⟨m,h2⟩:=h;rw [m,h2];rw [Option.isSome_eq_false_iff,Option.isNone_iff_eq_none]at m h2;rw [m,h2];exact ⟨rfl,rfl⟩
 cases ha:Ny q c with
 |true=>exact .inl rfl
 |false=>
  obtain ⟨m,h2⟩:=B ha;unfold Ce at h;rw [ha,m,h2]at h;obtain ⟨_,_,_,I⟩:=G;right;simp at h;exact ⟨by omega,h.2.2.2.2⟩
theorem qf(G:JK qs sc jn){i:Int}(h:i∈NC sc jn c):∃x∈qs,x.1=i:=by
 unfold NC at h;rcases B9.1 h with h|h
 · obtain ⟨r,_,h⟩:=RT.1 h
   obtain ⟨n,_,h⟩:=RT.1 h;obtain ⟨x,B,m,_⟩:=(G.scan _ _ _ _).1 h;exact ⟨x,B,m⟩
 · obtain ⟨x,B,m,_⟩:=(G.join _ _).1 h
   exact ⟨x,B,m⟩
theorem zC(B:Ed qs es ck lm){x y:Int×QM}(K:x∈qs)(O:y∈qs)(G:x.1=y.1):x=y:=by
 have I:∀{l:List (Int×QM)},(l.map (·.1)).Nodup->x∈l->y∈l->x=y:=fun{l}=>by
  induction l with
  |nil=>intro _ h;cases h
  |cons a l ih=>
   intro m J h2;rw [DO,HW]at m;rcases D0.1 J with h3|h3
   · rcases D0.1 h2 with h4|h4
     · rw [h3,h4]
     · exact absurd (by rw [<-h3,G];exact DM h4) m.1
   · rcases D0.1 h2 with h4|h4
     · exact absurd (by rw [<-h4,<-G];exact DM h3) m.1
     · exact ih m.2 h3 h4
 exact I B.ids K O
theorem eF(B:JK qs sc jn){x:Int×QM}(J:x∈qs)(G:BI x.2)(h:Ce x.2 c=true):x.1∈NC sc jn c:=by
 unfold NC;rcases jW G h with h|⟨h7,m⟩
 · obtain ⟨r,I,hi⟩:=xY h
   unfold inQ at hi;rw [G2]at hi;have hc:=G.2.1
   have hv:=LG r x.2.cl.toNat A1;rw [show((x.2.cl.toNat:Nat):Int)=x.2.cl by omega]at hv;have m:r.t=c.t:=by rcases Ht.1 I with⟨_,rfl⟩|⟨_,rfl⟩<;>rfl
   refine DS _ (RT.2 ⟨r,I,RT.2 ⟨x.2.cl.toNat,Iv.2 A1,?_⟩⟩);refine (B.scan _ _ _ _).2 ⟨x,J,V,?_,by omega,by omega⟩;unfold plQ;rw [show((x.2.cl.toNat:Nat):Int)=x.2.cl by omega,<-m,hi.1]
 · exact G1 _ ((B.join _ _).2 ⟨x,J,rfl,h7,m.symm⟩)
def WG(qs:List (Int×QM))(lv:Value)(ML:List A9):Prop:=(lv= .pointer none/\ML=[])\/∃lp sc jn,lv=I5 lp/\PO sc jn lp ML/\JK qs sc jn
theorem fZ{P:Program}{f:FuncId}{args:Array Value}{H1 m:Hp}{Q:Value->Hp->Prop}(h:Ba P f args H1 Q)(e:m.flatten=H1.flatten):Ba P f args m Q:=fun u R w B=>h u R w (B.perm (by rw [GP,GP,e]))
theorem rD(B:Ed qs es ck lm)(J:∀x∈qs,BI x.2)(I:qs.length<=500){lv:Value}(G:WG qs lv ML):
 Ba prog 111 #[I5 ip] [[(ip,.cells #[.map (some mp),lv] 186 (0,0))],[(mp,.map es ck)],ML] (fun r H'=>∃lp m sc jn,r=I5 lp/\PO sc jn lp m/\JK qs sc jn/\H'=[[(ip,.cells #[.map (some mp),I5 lp] 186 (0,0))],[(mp,.map es ck)],m]):=by
 rcases G with⟨rfl,rfl⟩|⟨lp,sc,jn,rfl,h1,h2⟩
 · refine (fZ (H1:=[[(ip,.cells #[.map (some mp),.pointer none] 186 (0,0))],[(mp,.map es ck)]]) (lC B J I) B0).mono ?_
   exact fun v H' h=>h
 · refine (fV lD [[(mp,.map es ck)],ML]).mono ?_
   rintro v H' ⟨H1,⟨rfl,rfl⟩,rfl⟩;exact ⟨lp,ML,sc,jn,V,h1,h2,V⟩
structure Hy(S:Int->Prop)(es:Array MapEntry)(ck:Nat)(lm:List (Int×Value)):Prop where
 map:Cj (fun n:Int=>Value.int .i64 n) es ck lm
 val:∀p∈lm,p.2= .bool true
 mem:∀i,i∈lm.map (·.1)↔S i
theorem fO:Hy (fun _=>False) #[] 0 []:=⟨ER _,fun p h=>by simp at h,fun i=>by simp⟩
variable{S:Int->Prop}
theorem Hy.get(h:Hy S es ck lm)(i:Int) [Decidable (S i)]:(EF i lm).getD (.bool false)= .bool (decide (S i)):=by
 by_cases hi:S i
 · obtain ⟨p,m,rfl⟩:=Bk.1 ((h.mem i).2 hi)
   rw [Cw h.map.keys m,h.val p m,DA hi];rfl
 · rw [DV fun p m B=>hi ((h.mem i).1 (Bk.2 ⟨p,m,B⟩)),CI hi];rfl
theorem Hy.cong{T:Int->Prop}(h:Hy S es ck lm)(e:∀i,S i↔T i):Hy T es ck lm:=⟨h.map,h.val,fun i=>(h.mem i).trans (e i)⟩
theorem Hy.put{J:Array MapEntry}{I:Nat}{G:List (Int×Value)}(h:Hy S es ck lm){i:Int}(U:Cj (fun n:Int=>Value.int .i64 n) J I G)(K:∀p,p∈G↔p=(i,.bool true)\/(p∈lm/\p.1≠i)):Hy (fun j=>S j\/j=i) J I G:=by
 refine ⟨U,fun p m=>?_,fun j=>?_⟩
 · rcases (K p).1 m with rfl|⟨h1,_⟩
   · rfl
   · exact h.val p h1
 · rw [<-h.mem]
   constructor
   · intro O
     obtain ⟨p,m,rfl⟩:=Bk.1 O;rcases (K p).1 m with rfl|⟨h1,_⟩
     · exact .inr rfl
     · exact .inl (DM h1)
   · intro O
     by_cases B:j=i
     · subst B;exact Bk.2 ⟨_,(K _).2 (.inl rfl),rfl⟩
     · obtain ⟨p,m,rfl⟩:=Bk.1 (O.resolve_right B)
       exact Bk.2 ⟨p,(K p).2 (.inr ⟨m,B⟩),V⟩
theorem Hy.len(h:Hy S es ck lm)(O:∀i,S i->∃x∈qs,x.1=i):lm.length<=qs.length:=by
 have K:∀{a b:List Int},a.Nodup->(∀x∈a,x∈b)->a.length<=b.length:=fun{a b}=>by
  induction a generalizing b with
  |nil=>intro _ _;exact C0 _
  |cons x a ih=>
   intro m G;obtain ⟨I,m⟩:=HW.1 m;have h2:=ih (b:=b.erase x) m fun y J=>by
    have B:y≠x:=fun e=>I (e▸J);exact (List.mem_erase_of_ne B).2 (G y (E3 _ J))
   have W:=mN (G x (Dd ..));have X:=List.length_pos_of_mem (G x (Dd ..))
   rw [DE];omega
 have h2:=K (a:=lm.map (·.1)) (b:=qs.map (·.1)) h.map.keys fun i hi=>by
  obtain ⟨x,I,U⟩:=O i ((h.mem i).1 hi);exact Bk.2 ⟨x,I,U⟩
 simpa using h2
def JL(qs:List (Int×QM))(cs:List Chg)(i:Int):Prop:=∃x∈qs,x.1=i/\∃c∈cs,Ce x.2 c=true
end Go.Proofs.YteaiajghbkenoaaGreatDoor
namespace Go.Proofs.YteaiajghbkenoaaGreatDoor
open Go.Proofs.Tryz
open Go Go.RowKit Gw
set_option maxRecDepth 100000
attribute [local irreducible] Gw.At Gw.Nx Gw.Ops
open Go.Sort
theorem Sk{κ:Type}{l:List (κ×Value)}{js:List Nat}(J:js.Nodup)(G:∀j∈js,j<l.length):∃m,((DN l js).map (·.1)++m).Perm (l.map (·.1)):=by
 have K:(js++(List.range l.length).filter fun j=>decide (j∉js)).Perm (List.range l.length):=(NX (Ge.2 ⟨J,(ft).sublist SU,fun a B b I=>by
  have:=(F1.1 I).2;simp only [G2]at this;intro h;subst h;exact this B⟩) ft).2 fun a=>by
  simp only [B9,F1,Iv,G2];constructor
  · rintro (h|h)
    · exact G a h
    · exact h.1
  · intro h
    by_cases B:a∈js
    · exact .inl B
    · exact .inr ⟨h,B⟩
 have h:=(K.filterMap (fun j=>l[j]?)).map (·.1);rw [dr,BW,show(List.range l.length).filterMap (fun j=>l[j]?)=DN l (List.range l.length) from rfl,N8]at h;exact ⟨_,h⟩
def Mj{κ:Type}(l:List (κ×Value))(p:List κ):Prop:=∃rest,(p++rest).Perm (l.map (·.1))
theorem Mj.len{κ:Type}{l:List (κ×Value)}{p:List κ}{x:κ}(h:Mj l (p++[x])):p.length<l.length:=by
 obtain ⟨r,h⟩:=h;have:=h.length_eq
 simp at this;omega
theorem bX{v:Value}{zs:List Int}{s:List A9}(O:Row 3 v (zs.map (Value.int .i64)) s)(Z:zs.length<=1000000):Ba prog 188 #[v] [s] (fun r H'=>∃(zs':List Int) (s':List A9),r= .tuple #[]/\zs'.Perm zs/\(zs'.Pairwise fun x y=>x<=y)/\Row 3 v (zs'.map (Value.int .i64)) s'/\H'=[s']):=fun u R w J=>by
 have m:=(nB zs fun x y=>decide (x<=y)).length_eq;have G:(zs.mergeSort fun x y=>decide (x<=y)).Pairwise fun x y=>x<=y:=by
  have h:=List.pairwise_mergeSort (le:=fun x y:Int=>decide (x<=y)) (fun a b c X h2=>by simp only [G2]at*;omega) (fun a b=>by simp only [RW,G2];omega) zs;simpa only [G2]using h
 rcases O with⟨rfl,h0,rfl⟩|⟨g,cap,cur,z,rfl,rfl,hle,hcm,hcs,htk,hfr⟩
 · have U:zs=[]:=by simpa using h0
   subst U;refine (Tryz.slices_Sort_int_none none 0 w).mono ?_;rintro e W ⟨rfl,rfl⟩;exact .inl ⟨_,[[]],V,⟨[],[],V,.refl _,.nil,by simp [Fu],V⟩,J⟩
 · rw [B2]at hle htk⊢
   have B:Sat u ([(g,.cells cur 3 z)]::R) w:=by simpa using J
   have I:=B.get (g,.cells cur 3 z) B0;have K:=TT I A1 hfr htk
   refine (Tryz.slices_Sort_int g 0 cap zs w K (HG.1 I).1 A1).mono ?_;rintro e W ⟨rfl,n,os,rfl⟩;refine .inl ⟨_,[[(g,.cells (putCells (Value.int .i64) 0 (zs.mergeSort fun x y=>decide (x<=y)).toArray cur) 3 z)]],V,⟨_,_,V,nB _ _,G,?_,V⟩,by simpa using B.sorted (n:=n) _ os⟩;refine .inr ⟨g,cap,_,z,by rw [B2,m],rfl,by rw [B2,m];exact hle,hcm,by rw [MQ];exact hcs,?_,by rw [MQ];exact hfr⟩;rw [B2];exact YP _ _ A1
theorem fB(mi:Nat):Ba prog 114 #[.map (some mi)] [] (fun r H'=>∃b,r= .func (.func 189) #[] #[I5 b]/\H'=[[(b,.cells #[.map (some mi)] 213 (0,0))]]):=by
 refine Se func114 ntmps114 [0] ?_;intro u R;refine A0<|Ze (Bx #[_])<|AD fun b=>A3 Y<|A0<|Zv (Bg (vs:=[]) (us:=[_]) Y Y)<|A3 Y<|AJ<|AO V results114 Y (by exact ⟨b,V,V⟩)
variable{es:Array MapEntry}{ck:Nat}{lm:List (Int×Value)}
theorem fC(W:Cj (fun n:Int=>(Value.int .i64) n) es ck lm)(b mi:Nat):KM prog 189 #[I5 b] [[(b,.cells #[.map (some mi)] 213 (0,0))]] (fun _ s=>(mi,Obj.map es ck)∈s) (fun x:Int=>#[I4 x]) (Mj lm) (fun ys=>ys.Perm (lm.map (·.1))):=by
 intro l J X hy s G;refine Se func189 ntmps189 [0,1] ?_;intro u R;refine A0<|Zl isAgg213 Y ?_;refine Ze (LB underlying213 Y (F8 Wo (X _ s G)))<|AD fun ib=>A4<|AP<|Zb [0,5] ?_;refine BB (e0:=[]) (fun m e H=>∃(js:List Nat) (seen:Array Nat) (s:List A9),m=lm.length -js.length/\(Ij es js seen/\J ((DN lm js).map (·.1)) s)/\e=[]/\H=[[(ib,.mapIter (some mi) ck seen ck)],s]) (by exact ⟨[],#[],s,V,⟨KC _,G⟩,V,V⟩) Wp ?_;rintro _ _ _ ⟨js,seen,s,rfl,⟨K,G⟩,rfl,rfl⟩;have Z:=F3 es.size js K.nodup K.lt
 rw [W.size]at Z;refine A0<|Ze (NL W K Y Wo (F8 Wo (X _ s G))) ?_;rintro _ _ ax;rcases ax with⟨I,rfl,rfl⟩|⟨jn,pn,seen2,hpn,hjn,hi2,rfl,rfl⟩
 ·
  refine Zd Y V<|A4<|Zq<|AV Y (fun B=>by cases B)<|fun B=>Ay<|Zt<|Zt<|AR<|Cv V results189 (by exact ⟨_,s,I.map _,V,G⟩)
 refine Zd Y V<|A4<|Zq<|AV Y (fun B=>?_) (fun B=>?_)
 ·
  have U:=F3 es.size (js++[jn]) hi2.nodup hi2.lt;rw [W.size,B7,E0]at U;have cO:(js++[jn]).length=js.length+1:=by rw [B7];rfl
  have bn:Mj lm ((DN lm js).map (·.1)++[pn.1]):=by
   have h:=Sk (l:=lm) hi2.nodup (fun j hj=>by rw [<-W.size];exact hi2.lt j hj);rw [Fv lm js hpn,BW]at h;exact h
  have cu:=hy ((DN lm js).map (·.1)) pn.1 s bn G;refine AC<|Zx<|AP<|Zq<|Zg ?_;have af:=X _ s G
  refine CO (cs:=[(ib,.mapIter (some mi) ck seen2 ck),(mi,.map es ck)]) (by simp [af]) (JA W hi2 hpn Y) V rfl ?_;refine Zd Y V<|A3 Y<|A0<|Zm Y<|Zm Y<|Ze (GR (vs:=[_]) Y Y (cu) Wp) ?_;rintro _ _ ⟨_,⟨s',rfl,rfl,O⟩,rfl⟩;rw [show(DN lm js).map (·.1)++[pn.1]=(DN lm (js++[jn])).map (·.1) by rw [Fv lm js hpn,BW];rfl]at O;refine Zv (Br Y)<|A4<|AV Y (fun B=>by cases B)<|fun B=>AC<|A8<|Zn [0,5] ?_;refine Aa (e':=[]) (by exact ⟨js++[jn],seen2,s',V,⟨hi2,O⟩,V,V⟩)
 cases B
variable{M:List A9}
theorem R9(hm:Cj (fun n:Int=>(Value.int .i64) n) es ck lm)(hn:lm.length<=1000000)(b mi:Nat)(U:(mi,Obj.map es ck)∈M):Ba prog 247 #[.slice none 0 0,.func (.func 189) #[] #[I5 b]] [[(b,.cells #[.map (some mi)] 213 (0,0))],M] (fun r H'=>∃(zs:List Int) (s':List A9),zs.Perm (lm.map (·.1))/\Row 3 r (zs.map (Value.int .i64)) s'/\H'=[M,s']):=by
 have af:=mL;refine DK func247 V ntmps247 V ?_;intro u R;refine Zb [0,1] ?_;refine A0<|Ze (Bx #[_])<|AD fun Z=>A3 Y<|Zq<|A0<|Zm Y<|A4<|AP<|Zb [2,6] ?_;refine BV<|Iy (H0:=_) (R:=_) (I:=(fun(pre:List Int) H=>∃B s2,H=[[(Z,.cells #[B] 36 (0,0))],s2,M]/\Row 3 B (pre.map (Value.int .i64)) s2)) (E:=fun x e Hn=>e=[(5,I4 x),(7,I4 x)]/\Hn=[]) rfl Y call189 (fC hm b mi) (fun pre H1 c d h=>by obtain ⟨B,s2,rfl,_⟩:=h;simp [U]) Y rfl Wp (⟨_,[],rfl,Fu _⟩) ?ha_2 ?hbd_2 ?hk_2
 case ha_2=>
  intro _ x _ _;refine Zg<|AG Y<|Li (e:=[(5,_),(7,_)]) (Hn:=[]) ?_;exact ⟨V,V⟩
 case hbd_2=>
  intro l pre x u e9 X H1 R1 r9 W hI J;obtain ⟨rfl,rfl⟩:=J;obtain ⟨B,s2,rfl,G⟩:=hI;have ax:=W.len
  obtain ⟨gv,cv,rfl⟩:=G.form;refine AP<|Zg<|Zl cG Y ?_;refine Zm Y<|Ze (Ah (vs:=[_]) (cs:=[_]) Cd A5 Gk Y V rfl V rfl V)<|AD fun b2=>Ze (EQ (by_:=8) (news:=[_]) Cd (V:Tryz.prog.info? 3=some Tryz.t3) V rfl V rfl Y G Y Wo Wh AM V Fm AN (by(simp only [B2];omega)) (by(simp only [B2];omega))) ?_;rintro _ _ ⟨sq,m,rfl⟩;obtain ⟨gq,cq,rfl⟩:=m.form;refine Xe (Zs dc Y Y V) ?_;refine Z0<|A8<|Ez rfl (by exact ⟨_,_,rfl,by rw [BW];exact m⟩)
 intro D1 ys H2 O K;obtain ⟨B,s2,rfl,G⟩:=K;refine Zn [2] ?_;refine A8<|Zx<|A0<|Zl cG Y ?_;refine A3 Y<|AJ<|GI V (dF results247 Y) Wo (by exact ⟨ys,s2,O,G,V⟩)
theorem UY(B:Cj (fun n:Int=>(Value.int .i64) n) es ck lm)(G:lm.length<=1000000)(b mi:Nat)(m:(mi,Obj.map es ck)∈M):Ba prog 187 #[.func (.func 189) #[] #[I5 b]] [[(b,.cells #[.map (some mi)] 213 (0,0))],M] (fun r H'=>∃(zs:List Int) (s':List A9),zs.Perm (lm.map (·.1))/\Row 3 r (zs.map (Value.int .i64)) s'/\H'=[M,s']):=by
 refine Se func187 ntmps187 [0] ?_;intro u R;refine A0<|A3 Y<|A0<|Zm Y<|Zc [_,_] Y call247 Y V (R9 B G b mi m) ?_;rintro _ _ ⟨_,⟨zs,s2,I,J,rfl⟩,rfl⟩;refine A3 Y<|AJ<|AO V results187 Y (by exact ⟨zs,s2,I,J,V⟩)
theorem WX(U:Cj (fun n:Int=>(Value.int .i64) n) es ck lm)(W:lm.length<=1000000)(b mi:Nat)(m:(mi,Obj.map es ck)∈M):Ba prog 113 #[.func (.func 189) #[] #[I5 b]] [[(b,.cells #[.map (some mi)] 213 (0,0))],M] (fun r H'=>∃(zs:List Int) (s':List A9),zs.Perm (lm.map (·.1))/\(zs.Pairwise fun x y=>x<=y)/\Row 3 r (zs.map (Value.int .i64)) s'/\H'=[M,s']):=by
 refine Se func113 ntmps113 [0] ?_;intro u R;refine A0<|A3 Y<|A0<|Zm Y<|Zc [_] Y call187 Y V (UY U W b mi m) ?_;rintro _ _ ⟨_,⟨zs,s2,O,X,rfl⟩,rfl⟩;have J:=O.length_eq
 rw [B2]at J;refine A3 Y<|A0<|Zm Y<|Zc [_] Y call188 Y V (bX X A1) ?_;rintro _ _ ⟨_,⟨K,Z,rfl,B,I,G,rfl⟩,rfl⟩;refine A4<|A0<|Zm Y<|A3 Y<|AJ<|AO V results113 Y (by exact ⟨K,Z,B.trans O,I,G,V⟩)
end Go.Proofs.YteaiajghbkenoaaGreatDoor
