/- Records encoded, in plain words; slices.Clone of changes. -/
/- Copies: changes, strings, paths. -/
/- ownRecord, ownEntry. -/
/- The index of queries: New, Add, Remove. -/
/- Intervals that contain a value. -/
/-
  The sort with a function lies in the program: laid at rows (printed by the kit, in plain words).
-/
/- Intervals sorted. -/
/- newIntervals. -/
/- What an index of intervals answers (plain). -/
/- make's two maps: families of rows. -/
/- query.Scan; make. -/
/- Which queries the loop of make has seen (plain). -/
/- The rows of a change; the numbers of queries near a change. -/
/- near: the numbers of queries near a change. -/
/- Rows read by membership (plain). -/
/- What make leaves (plain). -/
/- make. -/
/- What a change touches is near it (plain). -/
/- The keys of a map, sorted: int. -/
import Derived.Test.YteaiajghbkenoaaGreatDoorEz
import Derived.Test.YteaiajghbkenoaaGreatDoorPy5
import Derived.Test.YteaiajghbkenoaaGreatDoorEx36
import Derived.Test.YteaiajghbkenoaaGreatDoorQe3
import Derived.Test.YteaiajghbkenoaaGreatDoorTr6
import Derived.Test.YteaiajghbkenoaaGreatDoorQe1
import Derived.Shelf.SlSortCmp.WholeK
import Derived.Test.YteaiajghbkenoaaGreatDoorProg
import Derived.Test.YteaiajghbkenoaaGreatDoorPr3
import Derived.Test.YteaiajghbkenoaaGreatDoorLg5
import Derived.Test.YteaiajghbkenoaaGreatDoorEx5
set_option linter.unusedVariables false
set_option linter.unusedSimpArgs false
namespace Go.Proofs.YteaiajghbkenoaaGreatDoor
open Go.Proofs.Tryz
open Go Go.RowKit Gw
set_option maxRecDepth 100000
attribute [local irreducible] Gw.At Gw.Nx Gw.Ops
def fl1(c:Chg):Int:=if c.had then 1 else 0
def vs1(c:Chg):List Int:=if c.had then [c.o.a,c.o.b,c.o.c]else []
def fl2(c:Chg):Int:=if c.has then fl1 c+2 else fl1 c
def vs2(c:Chg):List Int:=if c.has then vs1 c++[c.n.a,c.n.b,c.n.c]else vs1 c
def yo(c:Chg):List UInt8:=Gs [c.t,c.k,fl2 c]++Gs (vs2 c)
def wX(p:Int)(cs:List Chg):List UInt8:=Gs [p,(cs.length:Int)]++cs.flatMap yo
variable{cs:List Chg}
theorem Eo.mem{p:Int}(h:Eo p cs):∀c∈cs,c.ok:=fun c hc=>by
 obtain ⟨i,hi⟩:=AA1 hc;exact h.all i c hi
variable{cap n:Nat}
theorem Lr{sz:Nat}{e:TypeId}{g:Nat}{cur:Array Value}{z:Nat×Nat}{xs:List Value}(h:BZ sz e (I6 g n cap) n xs [(g,.cells cur e z)]){j:Nat}{u:Value}(hu:xs[j]?=some u):cur[j]?=some u:=by
 obtain ⟨hl,⟨h1,_⟩|⟨g',cap',cur',z',h1,h2,_,_,_,htk,_⟩⟩:=h
 · cases h1
 · injection h1 with h1 _ h3
   injection h2 with h2 _
   injection h2 with h4 h5
   injection h5 with h5 _ _
   subst h5;have hj:=(zF.1 hu).1
   rw [<-htk,AA7,Am7 Ao7]at hu;simpa using hu
variable{p:Option Addr}
theorem eG{sz:Nat}{e:TypeId}{xs:List Value}{s:List A8}(h:BZ sz e (.slice p n cap) n xs s)(h0:0<n):∃g cur z,p=some ⟨g,0,none⟩/\s=[(g,.cells cur e z)]/\IA z cur.size/\cur.size=cap*sz/\n<=cap/\cap<=maxLen:=by
 obtain ⟨hl,⟨h1,h2,_⟩|⟨g,cap',cur,z,h1,rfl,h2,h3,h4,h5,h6⟩⟩:=h
 · omega
 · injection h1 with h1 _ h7
   subst h7;exact ⟨g,cur,z,h1,V,h6,h4,h2,h3⟩
variable{M:List A8}
theorem dP(h:Ct M (.slice p n cap) cs):F5 M p (J2 cs):=by
 obtain ⟨p',cap',e,_,hg⟩:=h;injection e with e1 e2 e3
 subst e1;exact NN _ 10 (fun _=>rfl) Ao9 fun i z hz=>hg i z hz
theorem ZU{ls:List Bs}(h:E9 M (.slice p n cap) ls):F5 M p (ls.map Fh):=by
 obtain ⟨p',cap',e,_,hg⟩:=h;injection e with e1 e2 e3
 subst e1;intro j u hu;rw [zY]at hu;cases hs:ls[j]?with
 |none=>rw [hs]at hu;cases hu
 |some s=>rw [hs]at hu;injection hu with hu;subst hu;exact hg j s hs
theorem lK(ls:List Bs):∀u∈ls.map Fh,u.oneCell'=true:=by
 intro u hu;obtain ⟨z,_,rfl⟩:=zQ.1 hu;rfl
variable{ps:List (List Bs)}
theorem aY(h:Li M (.slice p n cap) ps):∃pvs,Jc M pvs ps/\F5 M p pvs/\∀u∈pvs,u.oneCell'=true:=by
 obtain ⟨p',cap',e,_,hg⟩:=h;injection e with e1 e2 e3
 subst e1;have key:∀k,k<=ps.length->∃pvs:List Value,pvs.length=k/\∀(i:Nat) (l:List Bs),i<k->ps[i]?=some l->∃q c,pvs[i]?=some (.slice q l.length c)/\E9 M (.slice q l.length c) l/\∃g off cur T zz,p=some ⟨g,off,none⟩/\(g,Obj.cells cur T zz)∈M/\cur[off+i]?=some (.slice q l.length c):=by
  intro k;induction k with
  |zero=>intro _;exact ⟨[],rfl,fun i l h=>absurd h (AM8 i)⟩
  |succ k ih=>
   intro hk;obtain ⟨pvs,h1,h2⟩:=ih Ao7;obtain ⟨l,hl⟩:∃l,ps[k]?=some l:=⟨_,zD Ao7⟩;obtain ⟨q,c,h3,h4⟩:=hg k l hl;refine ⟨pvs++[.slice q l.length c],by rw [zG,h1];rfl,fun i l' hi hl'=>?_⟩;rcases AB1 i k with h5|h5
   · obtain ⟨q',c',h6,h7⟩:=h2 i l' h5 hl'
     exact ⟨q',c',by rw [AE6 Ao7];exact h6,h7⟩
   · obtain rfl:i=k:=by omega
     rw [hl]at hl';injection hl' with hl';subst hl'
     exact ⟨q,c,by rw [AC1 Ao7,h1];simp,h3,h4⟩
 obtain ⟨pvs,h1,h2⟩:=key ps.length (zh _);refine ⟨pvs,⟨h1,fun i v l hv hl=>?_⟩,fun j u hu=>?_,fun u hu=>?_⟩
 · obtain ⟨q,c,h3,h4,_⟩:=h2 i l (zF.1 hl).1 hl
   rw [h3]at hv;injection hv with hv;subst hv;exact h4
 · have hj:=(zF.1 hu).1
   obtain ⟨l,hl⟩:∃l,ps[j]?=some l:=⟨_,zD Ao7⟩;obtain ⟨q,c,h3,_,g,off,cur,T,zz,h5,h6,h7⟩:=h2 j l Ao7 hl;rw [h3]at hu;injection hu with hu;subst hu
   exact ⟨g,off,cur,T,zz,h5,h6,h7⟩
 · obtain ⟨j,hj⟩:=AA1 hu
   have hjl:=(zF.1 hj).1;obtain ⟨l,hl⟩:∃l,ps[j]?=some l:=⟨_,zD Ao7⟩;obtain ⟨q,c,h3,_⟩:=h2 j l Ao7 hl;rw [h3]at hj;injection hj with hj;subst hj;rfl
def RP.fits(x:RP):Prop:=x.rows.length<=1000000/\x.paths.length<=1000000/\x.roots.length<=1000000/\∀l∈x.paths,l.length<=1000000
theorem VE(Z:List RPZ):(Z.flatMap EN).length=Z.length*9:=by
 induction Z with
 |nil=>rfl
 |cons a l ih=>rw [AB2,zG,ih];show 9+_=_;rw [ze];omega
variable{i:Nat}
theorem ZE{A B:List RPZ}{z:RPZ}(hA:A.length=i)(k:Nat)(hk:k<9):((A++z::B).flatMap EN)[i*9+k]?=(EN z)[k]?:=by
 rw [AE2,AB2,AC1 (by rw [VE];omega),VE,hA,show i*9+k -i*9=k by omega,AE6 (by exact hk)]
theorem vS{A B:List RPZ}{z:RPZ}(hA:A.length=i)(a b c:Option Addr)(a' b' c':Nat):
 ((((A++z::B).flatMap EN).set (i*9+6) (.slice a z.x.rows.length a')).set (i*9+8) (.slice b z.x.roots.length b')).set (i*9+7) (.slice c z.x.paths.length c')=(A++[(⟨z.x,a,a',c,c',b,b'⟩:RPZ)]++B).flatMap EN:=by
 have e:∀(l:List Value) (k:Nat) (v:Value),(A.flatMap EN++l).set (i*9+k) v=A.flatMap EN++l.set k v:=fun l k v=>by
  rw [AM9 _ _ (by rw [VE];omega),VE,hA,show i*9+k -i*9=k by omega]
 rw [zM,AE2,AE2,AB2,e,e,e];rfl
variable{v:Value}
theorem Tx(hv:Ct M v cs)(hb:cs.length<=1000000):BR Tryz.prog 108 #[v] [M] (fun r H'=>∃sr,BZ 10 69 r cs.length (J2 cs) sr/\H'=[sr,M]):=by
 have hml:=mL;have hcm:=hv
 obtain ⟨p,cap,rfl,hl,hg⟩:=id hv;replace hcm:=dP hcm;refine Se func108 ntmps108 [0] ?_;intro u R;refine Zq<|Zg<|Za Y<|Z0<|Zx<|Zq<|Zq<|Zg<|Zm Y<|Zv (DX AZ0 Y Y)<|Z0<|Zx<|AR Y (fun hp=>?_) (fun hp=>?_)
 ·
  have hp0:p=none:=by cases p with
   |none=>rfl
   |some x=>cases hp
  have h0:cs=[]:=by
   cases cs with
   |nil=>rfl
   |cons x l=>obtain ⟨g,off,cur,T,zz,e9,_⟩:=hg 0 x rfl;rw [hp0]at e9;cases e9
  refine Zq<|BV<|Zg<|Za Y<|Z0<|Zx<|AC<|Zt<|AL rfl results108 Y (by exact ⟨[],by rw [h0];exact Bf 10 _,rfl⟩)
 refine AJ<|Zx<|Zq<|Zg<|Ze (Dw AZ0 AW4) ?_;rintro _ _ ⟨g1,rfl,rfl⟩;refine Zm Y<|Ze (Gi (by_:=80) (sz:=10) AZ0 (V:Tryz.prog.info? 69=some Tryz.t69) V rfl V rfl Y (Im 10 69 g1 0 [] V Ao9) Y (hcm) (by exact Oc _) Ao9 Wo Wo (by exact WK _) Ao7 Ao7) ?_;rintro _ _ ⟨sa1,hra1,rfl⟩;replace hra1:=BO hra1 (zo _) (AD8 _);refine Za Y<|Z0<|Zx<|AC<|AL V results108 Y (by exact ⟨_,hra1,V⟩)
theorem MZ{ls:List Bs}(hv:E9 M v ls)(hb:ls.length<=1000000):BR Tryz.prog 123 #[v] [M] (fun r H'=>∃sr,BZ 1 9 r ls.length (ls.map Fh) sr/\H'=[sr,M]):=by
 have hml:=mL;have hcm:=hv
 obtain ⟨p,cap,rfl,hl,hg⟩:=id hv;replace hcm:=ZU hcm;refine Se func123 ntmps123 [0] ?_;intro u R;refine Zq<|Zg<|Za Y<|Z0<|Zx<|Zq<|Zq<|Zg<|Zm Y<|Zv (DX AV1 Y Y)<|Z0<|Zx<|AR Y (fun hp=>?_) (fun hp=>?_)
 ·
  have hp0:p=none:=by cases p with
   |none=>rfl
   |some x=>cases hp
  have h0:ls=[]:=by
   cases ls with
   |nil=>rfl
   |cons x l=>obtain ⟨g,off,cur,T,zz,e9,_⟩:=hg 0 x rfl;rw [hp0]at e9;cases e9
  refine Zq<|BV<|Zg<|Za Y<|Z0<|Zx<|AC<|Zt<|AL rfl results123 Y (by exact ⟨[],by rw [h0];exact Bf 1 _,rfl⟩)
 refine AJ<|Zx<|Zq<|Zg<|Ze (Dw AV1 AY6) ?_;rintro _ _ ⟨g1,rfl,rfl⟩;refine Zm Y<|Ze (Gi (by_:=16) (sz:=1) AV1 (V:Tryz.prog.info? 9=some Tryz.t9) V rfl V rfl Y (Im 1 9 g1 0 [] V Ao9) Y (hcm) (by(rw [zH,AK7])) Ao9 Wo Wo (by exact lK _) Ao7 Ao7) ?_;rintro _ _ ⟨sa1,hra1,rfl⟩;replace hra1:=BO hra1 (zo _) (AD8 _);refine Za Y<|Z0<|Zx<|AC<|AL V results123 Y (by exact ⟨_,hra1,V⟩)
theorem Rk(hv:Li M v ps)(hb:ps.length<=1000000):BR Tryz.prog 124 #[v] [M] (fun r H'=>∃sr pvs,Jc M pvs ps/\BZ 1 45 r ps.length pvs sr/\H'=[sr,M]):=by
 have hml:=mL;have hcm:=hv
 obtain ⟨p,cap,rfl,⟨hl,hlc⟩,hg⟩:=id hv;obtain ⟨pvs,hps,hcm,hone⟩:=aY hcm;have hpl:=hps.1
 refine Se func124 ntmps124 [0] ?_;intro u R;refine Zq<|Zg<|Za Y<|Z0<|Zx<|Zq<|Zq<|Zg<|Zm Y<|Zv (DX AY3 Y Y)<|Z0<|Zx<|AR Y (fun hp=>?_) (fun hp=>?_)
 ·
  have hp0:p=none:=by cases p with
   |none=>rfl
   |some x=>cases hp
  have h0:ps=[]:=by
   cases ps with
   |nil=>rfl
   |cons x l=>obtain ⟨_,_,_,g,off,cur,T,zz,e9,_⟩:=hg 0 x rfl;rw [hp0]at e9;cases e9
  refine Zq<|BV<|Zg<|Za Y<|Z0<|Zx<|AC<|Zt<|AL rfl results124 Y (by exact ⟨[],[],by rw [h0];exact PQ _,by rw [h0];exact Bf 1 _,rfl⟩)
 refine AJ<|Zx<|Zq<|Zg<|Ze (Dw AY3 Aa1) ?_;rintro _ _ ⟨g1,rfl,rfl⟩;refine Zm Y<|Ze (Gi (by_:=24) (sz:=1) AY3 (V:Tryz.prog.info? 45=some Tryz.t45) V rfl V rfl Y (Im 1 45 g1 0 [] V Ao9) Y (hcm) (by(rw [AK7];exact hpl)) Ao9 Wo Wo (by exact hone) Ao7 Ao7) ?_;rintro _ _ ⟨sa1,hra1,rfl⟩;replace hra1:=BO hra1 (zo _) (AD8 _);refine Za Y<|Z0<|Zx<|AC<|AL V results124 Y (by exact ⟨_,pvs,hps,hra1,V⟩)
theorem aZ{MP s:List A8}{pvs:List Value}{k:Nat}{v9:Value}{l9:List Bs}(h:∀(j:Nat) (v:Value) (l:List Bs),pvs[j]?=some v->ps[j]?=some l->if j<k then E9 MP v l else E9 M v l)(hpl:pvs.length=ps.length)(hk:k<ps.length)(hl:ps[k]?=some l9)(h9:E9 s v9 l9):
 ∀(j:Nat) (v:Value) (l:List Bs),(pvs.set k v9)[j]?=some v->ps[j]?=some l->if j<k+1 then E9 (s++MP) v l else E9 M v l:=by
 intro j v l hv hl2;rw [AG1]at hv;by_cases hj:k=j
 · subst hj
   rw [Am7 rfl,Am7 Ao7]at hv;injection hv with hv
   rw [hl]at hl2;injection hl2 with hl2
   subst hv hl2;rw [Am7 Ao7];exact h9.mono fun c hc=>zR _ hc
 · rw [Am6 hj]at hv
   have h1:=h j v l hv hl2;by_cases hjk:j<k
   · rw [Am7 hjk]at h1
     rw [Am7 Ao7];exact h1.mono fun c hc=>zZ _ hc
   · rw [Am6 hjk]at h1
     rw [Am6 Ao7];exact h1
theorem jr{α:Type}{l:List α}{x:α}(h:l[i]?=some x):l.drop i=x::l.drop (i+1):=by
 obtain ⟨h1,h2⟩:=zF.1 h;rw [AD0 h1,h2]
theorem LP(p:Int)(hv:Ct M v cs)(hb:cs.length<=1000000):BR Tryz.prog 52 #[.agg #[I4 p,v]] [M] (fun r H'=>∃q cap s,r= .agg #[I4 p,.slice q cs.length cap]/\Ct s (.slice q cs.length cap) cs/\H'=[s,M]):=by
 have hml:=mL;obtain ⟨p9,cap9,rfl,hl9,_⟩:=id hv;refine Se func52 ntmps52 [0] ?_;intro u R;refine Zq<|Zg<|Ze (Bx #[I4 p,.slice p9 cs.length cap9]) ?_;rintro _ _ ⟨br,rfl,rfl⟩;refine Ze (Al Ac0 #[_,_]) ?_;rintro _ _ ⟨bo,rfl,rfl⟩;refine Z0<|Zx<|Zq<|Zg<|Zh 1 AY1 V rfl Ai4 Y<|Zl isAgg48 Y ?_;refine Zc [_] Y call108 Y V (Tx hv hb) ?_;rintro _ _ ⟨_,⟨s1,h1,rfl⟩,rfl⟩;obtain ⟨g1,c1,rfl⟩:=h1.form;refine Zh 1 AY1 V rfl Ai4 Y<|Xe (Zs Ai4 Y Y V (hi:=by(simp;done))) ?_;refine Z0<|Zx<|Zq<|Zg<|Zo Wh (AA (cs:=#[I4 p,.slice g1 cs.length c1]) Ad7 AX5 Y (by(simp;done)) (by exact BD V)) ?_;refine Xe (BK AX5 Y Y Ap9 Wu (by exact Dr rfl) Ap3 Ao9 (by exact BF _)) ?_;refine Z0<|Zx<|AC<|Cy V results52 Y Wh (Ap Ad7 AX5 Wn (BD V)) (by exact ⟨g1,c1,s1,V,kI h1 Ao7,V⟩)
set_option maxHeartbeats 1000000 in
theorem Q9(q:QM)(te base:Int){pg:Option Addr}{cg:Nat}{L:List RP}(hL:Fg M (.slice pg L.length cg) L)(hLl:L.length<=1000000)(hfit:∀x∈L,x.fits):BR Tryz.prog 66 #[.agg #[I4 q.kd,I4 q.tb,I4 q.cl,I4 q.lo,I4 q.hi,I4 q.bq,I4 q.ot,I4 te,I4 base,.slice pg L.length cg]] [M] (fun r H'=>∃pz cz s,r= .agg #[I4 q.kd,I4 q.tb,I4 q.cl,I4 q.lo,I4 q.hi,I4 q.bq,I4 q.ot,I4 te,I4 base,.slice pz L.length cz]/\Fg s (.slice pz L.length cz) L/\H'=[s,M]):=by
 have hml:=mL;obtain ⟨Z,hZ,hZx⟩:=id hL;have hZl:Z.length=L.length:=by rw [<-hZx,zH]
 obtain ⟨p9,cap9,e9,_,hzg⟩:=id hZ;injection e9 with e91 e92 e93
 subst e91 e93;have hzok:∀(i:Nat) (z:RPZ),Z[i]?=some z->z.ok M/\z.x.fits:=fun i z hz=>⟨(hzg i z hz).1,hfit _ (by rw [<-hZx];exact zS (zP hz))⟩
 refine Se func66 ntmps66 [0] ?_;intro u R;refine Zq<|Zg<|Ze (Bx #[I4 q.kd,I4 q.tb,I4 q.cl,I4 q.lo,I4 q.hi,I4 q.bq,I4 q.ot,I4 te,I4 base,.slice pg L.length cg]) ?_;rintro _ _ ⟨be,rfl,rfl⟩;refine Ze (EB Af4 (cs:=#[I4 0,I4 0,I4 0,I4 0,I4 0,I4 0,I4 0,I4 0,I4 0,.slice none 0 0]) Ao8) ?_;rintro _ _ ⟨bo,rfl,rfl⟩;refine Z0<|Zx<|Zq<|Zg<|Zh 9 AV7 V rfl Ae6 Y<|Zl Ah4 Y ?_;refine Zc [_] Y call118 Y V (Kl hZ Ao7) ?_;rintro _ _ ⟨_,⟨s1,h1,rfl⟩,rfl⟩;obtain ⟨pz,cz,rfl⟩:=h1.form;refine Zh 9 AV7 V rfl Ae6 Y<|Xe (Zs Ae6 Y Y V (hi:=by(simp;done))) ?_;refine Z0<|Zx<|Zq<|Zq<|BV<|Zg<|Zh 9 AV7 V rfl Ae6 Y<|Zl Ah4 Y ?_;refine Zv (Aa Ac6 Y)<|Zm Y<|Z0<|Zx<|AO<|Zb [13,1,2,12] ?_;refine BI (e0:=[(13,_)]) (fun m e H=>∃(i:Nat) (Z1:List RPZ) (sz MM:List A8),m=Z.length -i/\((i<=Z.length/\Z1.length=i)/\BZ 9 152 (.slice pz Z.length cz) Z.length ((Z1++Z.drop i).flatMap EN) sz/\(∀z∈Z1,z.ok MM)/\Z1.map RPZ.x=(Z.take i).map RPZ.x)/\e=[(13,I4 (i:Int))]/\H=[sz,MM]) (by exact ⟨0,[],s1,[],V,⟨⟨zT _,V⟩,h1,fun z hz=>absurd hz Ap0,V⟩,V,V⟩) Wp ?_;rintro _ _ _ ⟨i,Z1,sz,MM,rfl,⟨⟨hi,hZ1⟩,hrow,hok1,hmx⟩,rfl,rfl⟩;refine Zq<|BV<|Zg<|Zv (Au Y Y)<|Z0<|Zx<|Zq<|Aw Y (fun hlt=>?_) (fun hlt=>?_)
 ·
  obtain ⟨z,hz⟩:∃z,Z[i]?=some z:=⟨_,zD Ao7⟩;obtain ⟨⟨hzr,hzp,hzt⟩,hf1,hf2,hf3,hf4⟩:=hzok i z hz;rw [jr hz]at hrow;obtain ⟨g,cur,zz,rfl,rfl,hfr,hcs,hle,hcm⟩:=eG hrow Ao7;have hib:i*9+9<=cur.size:=by omega
  have hg6:=Lr hrow (ZE (B:=Z.drop (i+1)) hZ1 6 Ao9);have hg7:=Lr hrow (ZE (B:=Z.drop (i+1)) hZ1 7 Ao9)
  have hg8:=Lr hrow (ZE (B:=Z.drop (i+1)) hZ1 8 Ao9);refine AJ<|Zx<|Zq<|AO<|Zq<|BV<|Zg<|Zm Y<|Za Y<|Z0<|Zx<|Zq<|Zg<|Zh 9 AV7 V rfl Ae6 Y<|Zl Ah4 Y ?_;refine Zm Y<|Bq (Ai Ac6 Ab0 Y Y Ao7)<|Za Y<|Z0<|Zx<|Zq<|Az (n:=27) (0::0::0::0::8::24::56::120::0::256::768::1792::4088::0::8192::24576::57344::131064::262137::524281::1048569::2097147::4194299::8388603::16777215::33554431::67108863::[]) 76681344 Ao8 Ao8 rfl<|An9 0 rfl (AP Y)<|An9 1 rfl (AP Y)<|An9 2 rfl (AP Y)<|An9 3 rfl (AP Y)<|An9 4 rfl (Am Y rfl)<|An9 5 rfl (Ar (off:=6) AU8 rfl rfl AW8 Y)<|Ao0 6 rfl Ab2 Y (hv:=by exact (by rw [zo];exact hg6)) ?_;refine An9 8 rfl (AP Y)<|An9 9 rfl (Am Y rfl)<|An9 10 rfl (Ar (off:=8) AU8 rfl rfl Aa1 Y)<|Ao0 11 rfl Ae3 Y (hv:=by exact (by rw [zo];exact hg8)) ?_;refine An9 13 rfl (AP Y)<|An9 14 rfl (Am Y rfl)<|An9 15 rfl (Ar (off:=7) AU8 rfl rfl Aa7 Y)<|Ao0 16 rfl isAgg150 Y (hv:=by exact (by rw [zo];exact hg7)) ?_;refine Zz (l:=[7])<|Ao5 [true,true,false] [(16,(_,_)),(11,(_,_))] V rfl (Zw [_] Y call109 Y V (GJ hzr Ao7)) ?hk_2 Bp ?hl_2
  case hk_2=>
   rintro _ _ ⟨_,⟨sr,hsr,rfl⟩,rfl⟩;refine ⟨Zk (Zk (AV)),?_⟩;obtain ⟨qr,cr,rfl⟩:=hsr.form;refine Zz (l:=[12])<|Ao5 [true,false] [(16,(_,_))] V rfl (Zw [_] Y call123 Y V (MZ hzt hf3)) ?hk_3 Bp ?hl_3
   case hk_3=>
    rintro _ _ ⟨_,⟨st,hst,rfl⟩,rfl⟩;refine ⟨Zk (AV),?_⟩;obtain ⟨qt,ct,rfl⟩:=hst.form;refine Zz (l:=[17])<|Ao5 [false] [] V rfl (Zw [_] Y call124 Y V (Rk hzp hf2)) ?hk_4 Bp ?hl_4
    case hk_4=>
     rintro _ _ ⟨_,⟨sp0,pv0,hps0,hsp0,rfl⟩,rfl⟩;refine ⟨AV,?_⟩;obtain ⟨qp,cp,rfl⟩:=hsp0.form;refine An9 18 V (Am Y V)<|An9 19 V (Ar (off:=6) AU8 V rfl AW8 Y)<|Zz (l:=[20])<|Ao5 [] [] V rfl (Zs AW8 Y Y V (hi:=by omega) (hz:=by exact hfr)) ?hk_5 (fun _ _ h=>h.elim) ?hl_5
     case hk_5=>
      rintro _ _ ⟨rfl,rfl⟩;refine ⟨AV,?_⟩;refine An9 21 V (Am Y V)<|An9 22 V (Ar (off:=8) AU8 V rfl Aa1 Y)<|Zz (l:=[23])<|Ao5 [] [] V rfl (Zs Aa1 Y Y V (hi:=by(simp;omega)) (hz:=by(simp only [AC8];exact hfr))) ?hk_6 (fun _ _ h=>h.elim) ?hl_6
      case hk_6=>
       rintro _ _ ⟨rfl,rfl⟩;refine ⟨AV,?_⟩;refine An9 24 V (Am Y V)<|An9 25 V (Ar (off:=7) AU8 V rfl Aa7 Y)<|Zz (l:=[26])<|Ao5 [] [] V rfl (Zs Aa7 Y Y V (hi:=by(simp;omega)) (hz:=by(simp only [AC8];exact hfr))) ?hk_7 (fun _ _ h=>h.elim) ?hl_7
       case hk_7=>
        rintro _ _ ⟨rfl,rfl⟩;refine ⟨AV,?_⟩;refine Ag<|Zn [1,2,4,12,13] ?_;refine Zx<|Zq ?_;have h7:(((cur.setIfInBounds (0+i*9+6) (.slice qr z.x.rows.length cr)).setIfInBounds (0+i*9+8) (.slice qt z.x.roots.length ct)).setIfInBounds (0+i*9+7) (.slice qp z.x.paths.length cp))[0+i*9+7]?=some (.slice qp z.x.paths.length cp):=by
         rw [AI7,Am7 rfl,Am7 (by simp only [AC8];omega)]
        obtain ⟨cur3,hcur3⟩:∃c,c=(((cur.setIfInBounds (0+i*9+6) (.slice qr z.x.rows.length cr)).setIfInBounds (0+i*9+8) (.slice qt z.x.roots.length ct)).setIfInBounds (0+i*9+7) (.slice qp z.x.paths.length cp)):=⟨_,rfl⟩;rw [<-hcur3]at h7⊢;refine Zg<|Zm Y<|Zp Y V<|Zv (Ar (off:=7) AU8 V rfl Aa7 Y)<|Zl isAgg150 Y (hv:=by exact h7) ?_;refine Zv (Aa AY3 Y)<|Zm Y<|Z0<|Zx<|AO<|BV<|Zb [49,1,2,4,12,13,48] ?_;refine BI (e0:=[(49,_)]) (fun m e H=>∃(k:Nat) (pvs:List Value) (sp MP:List A8),m=z.x.paths.length -k/\((k<=z.x.paths.length/\pvs.length=z.x.paths.length)/\BZ 1 45 (.slice qp z.x.paths.length cp) z.x.paths.length pvs sp/\(∀(j:Nat) (v:Value) (l:List Bs),pvs[j]?=some v->z.x.paths[j]?=some l->if j<k then E9 MP v l else E9 M v l))/\e=[(49,I4 (k:Int))]/\H=[sp,MP]) (by exact ⟨0,pv0,sp0,[],rfl,⟨⟨zT _,hps0.1⟩,hsp0,fun j v l hv hl=>by rw [Am6 (AM8 j)];exact hps0.2 j v l hv hl⟩,rfl,rfl⟩) Wp ?_;rintro _ _ _ ⟨k,pvs,sp,MP,rfl,⟨⟨hk,hpl⟩,hsp,hpv⟩,rfl,rfl⟩;refine Zq<|Zg<|Zv (Au Y Y)<|Z0<|Zx<|Zq<|Aw Y (fun hk9=>?_) (fun hk9=>?_)
        ·
         obtain ⟨l,hl⟩:∃l,z.x.paths[k]?=some l:=⟨_,zD hk9⟩;have hll:=hf4 l (zP hl)
         obtain ⟨v0,hv0⟩:∃v,pvs[k]?=some v:=⟨_,zD Ao7⟩;obtain ⟨gp,curp,zp,rfl,rfl,hfrp,hcsp,hlep,hcmp⟩:=eG hsp Ao7;have hgk:=Lr hsp hv0
         have hstr:=hpv k v0 l hv0 hl;rw [Am6 (Nat.lt_irrefl k)]at hstr;refine AJ<|Zx<|Zq<|AO<|Zq<|Zg<|Zm Y<|Za Y<|Z0<|Zx<|Az (n:=15) (0::1::3::7::0::0::32::96::224::0::992::2016::4064::8191::16383::[]) 20480 Ao8 Ao8 V<|An9 0 V (AP Y)<|An9 1 V (Am Y V)<|An9 2 V (Ar (off:=7) AU8 V rfl Aa7 Y)<|Ao0 3 V isAgg150 Y (hv:=by exact h7) ?_;refine An9 4 V (AP Y)<|An9 5 V (AP Y)<|An9 6 V (Am Y V)<|An9 7 V (Ar (off:=7) AU8 V rfl Aa7 Y)<|Ao0 8 V isAgg150 Y (hv:=by exact h7) ?_;refine An9 9 rfl (AP Y)<|An9 10 rfl (Ba AY3 Aa1 Y Y (by first|omega|(simp;omega)))<|Ao0 11 rfl Ae3 Y (hv:=by exact (by exact hgk)) ?_;refine Zz (l:=[12])<|Ao5 [false,false,true] [(3,(_,_))] V rfl (Zw [_] Y call123 Y V (MZ hstr hll)) ?hk_9 Bp ?hl_9
         case hk_9=>
          rintro _ _ ⟨_,⟨sl,hsl,rfl⟩,rfl⟩;refine ⟨Zk (AV),?_⟩;obtain ⟨ql,cl,rfl⟩:=hsl.form;refine An9 13 rfl (Ba AY3 Aa1 Y Y (by first|omega|(simp;omega)))<|Yw 14 32767 rfl (Zs Aa1 Y Y rfl (hi:=by omega) (hz:=by exact hfrp)) ?_;rintro _ _ ⟨rfl,rfl⟩;refine Ag<|Zn [1,2,4,12,13,48,49] ?_;refine A9<|Zx<|C8 (s1:=sl) (s2:=MP) Wo Wo ?_;refine Zg<|Ya (n:=1) Y Y<|Zm Y<|Z0<|Zn [49,1,2,4,12,13,48] ?_;refine Ad (e':=[(49,_)]) (by exact ⟨k+1,pvs.set k (.slice ql l.length cl),[(gp,.cells (curp.setIfInBounds k (.slice ql l.length cl)) 45 zp)],sl++MP,rfl,⟨⟨by omega,by rw [AL3];exact hpl⟩,O7 hsp k _,aZ hpv hpl hk9 hl (GD hsl Ao7)⟩,rfl,rfl⟩)
         exact Ae
        obtain rfl:k=z.x.paths.length:=by omega
        refine BG<|Zt<|Zt<|AX<|A9<|Zx<|C8 (s1:=MP) (s2:=st) Wo Wo ?_;refine C8 (s1:=sp) (s2:=(MP++st)) Wo Wo ?_;refine C8 (s1:=sr) (s2:=(sp++(MP++st))) Wo Wo ?_;refine C8 (s1:=(sr++(sp++(MP++st)))) (s2:=MM) Wo Wo ?_;have hok3:RPZ.ok (sr++(sp++(MP++st))) ⟨z.x,qr,cr,qp,cp,qt,ct⟩:=⟨(D7 hsr Ao7).mono (fun c hc=>zR _ hc),(UX hsp ⟨hpl,fun j v l hv hl=>by
         have h9:=hpv j v l hv hl;rwa [Am7 (zF.1 hl).1]at h9⟩ Ao7).mono (fun c hc=>by rcases zJ.1 hc with h9|h9<;>simp [h9]),(GD hst Ao7).mono (fun c hc=>by simp [hc])⟩
        have hrow3:=O7 (O7 (O7 hrow (i*9+6) (.slice qr z.x.rows.length cr)) (i*9+8) (.slice qt z.x.roots.length ct)) (i*9+7) (.slice qp z.x.paths.length cp);rw [vS hZ1]at hrow3;simp only [zo]at hcur3;rw [<-hcur3]at hrow3;refine Zg<|Ya (n:=1) Y Y<|Zm Y<|Z0<|Zn [13,1,2,12] ?_;refine Ad (e':=[(13,_)]) (by
         exact ⟨i+1,Z1++[⟨z.x,qr,cr,qp,cp,qt,ct⟩],[(g,.cells cur3 152 zz)],sr++(sp++(MP++st))++MM,rfl,⟨⟨by omega,by rw [zG,hZ1];rfl⟩,hrow3,fun y hy=>by
          rcases zJ.1 hy with hy|hy
          · exact (hok1 y hy).mono (fun c hc=>zZ _ hc)
          · rw [zI.1 hy];exact hok3.mono (fun c hc=>zR _ hc),by rw [zK,hmx,Bc hz,zK];rfl⟩,rfl,rfl⟩)
       exact Ae
      exact Ae
     exact Ae
    exact Ae
   exact Ae
  exact Ae
 obtain rfl:i=Z.length:=by omega
 refine BG<|Zt<|Zt<|AX<|Zx<|Zq ?_;rw [show Z1++Z.drop Z.length=Z1 by rw [AN5,zV]]at hrow;rw [AA4]at hmx;refine C8 (s1:=sz) (s2:=MM) Wo Wo ?_;refine Zg<|Zo Wh (AA (cs:=#[I4 q.kd,I4 q.tb,I4 q.cl,I4 q.lo,I4 q.hi,I4 q.bq,I4 q.ot,I4 te,I4 base,.slice pz Z.length cz]) Ah5 AY9 Y (by(simp;done)) (by exact BD V)) ?_;refine Xe (BK AY9 Y Y Ap9 Wu (by exact Dr rfl) Ap3 Ao9 (by exact BF _)) ?_;refine Z0<|Zx<|AC<|Cy rfl results66 Y Wh (Ap Ah5 AY9 Wn (BD rfl)) (by exact ⟨pz,cz,sz++MM,by rw [hZl],⟨Z1,VD (by rw [hZ1,<-hZl];exact hrow) Ao7 hok1,by rw [hmx];exact hZx⟩,rfl⟩)
structure EM(qs:List (Int×QM))(es:Array MapEntry)(ck:Nat)(lm:List (Int×Value)):Prop where
 map:Ce (fun n:Int=>Value.int .i64 n) es ck lm
 mem:∀p,p∈lm↔∃x∈qs,p=(x.1,(.agg #[I4 x.2.kd,I4 x.2.tb,I4 x.2.cl,I4 x.2.lo,I4 x.2.hi,I4 x.2.bq,I4 x.2.ot]:Value))
 ids:(qs.map (·.1)).Nodup
theorem Nn{β:Type}(p:β×Value)(k:β)(v v0:Value){A:Prop}:(p=(k,v)\/((p=(k,v0)\/(A/\p.1≠k))/\p.1≠k))↔(p=(k,v)\/(A/\p.1≠k)):=by
 constructor
 · rintro (h|⟨h|⟨h,_⟩,hn⟩)
   · exact .inl h
   · exact absurd (by rw [h]) hn
   · exact .inr ⟨h,hn⟩
 · rintro (h|⟨h,hn⟩)
   · exact .inl h
   · exact .inr ⟨.inr ⟨h,hn⟩,hn⟩
theorem jU:EM [] #[] 0 []:=⟨E5 _,fun p=>by simp,AR9⟩
theorem EM.none{qs:List (Int×QM)}{es:Array MapEntry}{ck:Nat}{lm:List (Int×Value)}(h:EM qs es ck lm){id:Int}(hn:∀x∈qs,x.1≠id):Dm id lm=none:=D9 fun p hp=>by
 obtain ⟨x,hx,rfl⟩:=(h.mem p).1 hp;exact hn x hx
variable{qs:List (Int×QM)}{es:Array MapEntry}{ck:Nat}{lm:List (Int×Value)}
theorem EM.get(h:EM qs es ck lm){x:Int×QM}(hx:x∈qs):Dm x.1 lm=some (.agg #[I4 x.2.kd,I4 x.2.tb,I4 x.2.cl,I4 x.2.lo,I4 x.2.hi,I4 x.2.bq,I4 x.2.ot]:Value):=Ck h.map.keys ((h.mem _).2 ⟨x,hx,rfl⟩)
theorem EM.len(h:EM qs es ck lm):lm.length=qs.length:=by
 have h1:(lm.map (·.1)).Perm (qs.map (·.1)):=(AC0 h.map.keys h.ids).2 fun a=>by
  constructor
  · intro ha
    obtain ⟨p,hp,rfl⟩:=zQ.1 ha;obtain ⟨x,hx,rfl⟩:=(h.mem p).1 hp;exact zS hx
  · intro ha
    obtain ⟨x,hx,rfl⟩:=zQ.1 ha;exact zQ.2 ⟨_,(h.mem _).2 ⟨x,hx,V⟩,V⟩
 have:=h1.length_eq;simpa using this
theorem jW(h:EM qs es ck lm){id:Int}{q:QM}(hn:∀x∈qs,x.1≠id){es':Array MapEntry}{ck':Nat}{lm':List (Int×Value)}(hm:Ce (fun n:Int=>Value.int .i64 n) es' ck' lm')
 (hp:∀p,p∈lm'↔p=(id,(.agg #[I4 q.kd,I4 q.tb,I4 q.cl,I4 q.lo,I4 q.hi,I4 q.bq,I4 q.ot]:Value))\/(p∈lm/\p.1≠id)):EM (qs++[(id,q)]) es' ck' lm':=by
 refine ⟨hm,fun p=>?_,?_⟩
 · rw [hp,h.mem]
   constructor
   · rintro (rfl|⟨⟨x,hx,rfl⟩,_⟩)
     · exact ⟨(id,q),by simp,rfl⟩
     · exact ⟨x,zR _ hx,rfl⟩
   · rintro ⟨x,hx,rfl⟩
     rcases zJ.1 hx with hx|hx
     · exact .inr ⟨⟨x,hx,rfl⟩,hn x hx⟩
     · rw [zI.1 hx];exact .inl rfl
 · rw [zK,AA5]
   refine ⟨h.ids,by simp,fun a ha b hb=>?_⟩;obtain ⟨x,hx,rfl⟩:=zQ.1 ha;obtain rfl:=zI.1 hb;exact hn x hx
theorem jV(h:EM qs es ck lm)(id:Int){es':Array MapEntry}{ck':Nat}{lm':List (Int×Value)}(hm:Ce (fun n:Int=>Value.int .i64 n) es' ck' lm')(hp:∀p,p∈lm'↔p∈lm/\p.1≠id):EM (qs.filter fun x=>x.1≠id) es' ck' lm':=by
 refine ⟨hm,fun p=>?_,(h.ids.sublist ((AF5).map _))⟩;rw [hp,h.mem];constructor
 · rintro ⟨⟨x,hx,rfl⟩,hn⟩
   exact ⟨x,AA2.2 ⟨hx,by simpa using hn⟩,V⟩
 · rintro ⟨x,hx,rfl⟩
   obtain ⟨h1,h2⟩:=AA2.1 hx;exact ⟨⟨x,h1,V⟩,by simpa using h2⟩
theorem fV:BR Tryz.prog 43 #[] [] (fun r H'=>∃bx mq,r=I5 bx/\H'=[[(bx,.cells #[.map (some mq),.pointer none] 186 (0,0))],[(mq,.map #[] 0)]]):=by
 refine Se func43 ntmps43 [] ?_;intro u R;refine Zq<|Zg<|Za Y<|Z0<|Zx<|Zq<|Zg<|Ze (D6) ?_;rintro _ _ ⟨mq,rfl,rfl⟩;refine Zv (BL (vs:=[(0,_)]) (cs:=#[_,_]) Y (AY (pl:=#[(0,1),(1,1)]) zeroValue186 AZ7 (fun _=>by kernel_rfl) V))<|Ze (Bx #[_,_]) ?_;rintro _ _ ⟨bx,rfl,rfl⟩;refine Za Y<|Z0<|Zx<|AC<|AL V results43 Y (by exact ⟨bx,mq,V,V⟩)
variable{lv:Value}
theorem VF{bx mq:Nat}(hok:EM qs es ck lm){x:Int×QM}(hx:x∈qs):BR Tryz.prog 98 #[I5 bx,I4 x.1] [[(bx,.cells #[.map (some mq),lv] 186 (0,0))],[(mq,.map es ck)]] (fun r H'=>∃es' ck' lm',r= .bool true/\EM (qs.filter fun y=>y.1≠x.1) es' ck' lm'/\H'=[[(bx,.cells #[.map (some mq),.pointer none] 186 (0,0))],[(mq,.map es' ck')]]):=by
 have hg:=hok.get hx;refine Se func98 ntmps98 [0,1] ?_;intro u R;refine Zq<|Zg<|Za Y<|Z0<|Zx<|Zq<|Zq<|Zg<|Zm Y<|Zv (BU underlying116 Y Y)<|Z0<|Zx<|AR Y (fun hb9=>?_) (fun hb9=>?_)
 ·
  cases hb9
 refine AJ<|Zx<|Zq<|Zg<|Zm Y<|Zp Y V<|Zh 0 AZ7 V rfl Aj1 Y<|Zl Am1 Y ?_;refine Zm Y<|Zo Wh (De (CO AV3 (D:=fun _=>True)) Af5 Ad8 hok.map (fun _ _=>trivial) (trivial) (⟨by rw [hg];first|done|rfl,by rw [hg];first|done|rfl⟩) Y Y) ?_;refine Zm Y<|Zd Y V<|Zd Y V<|Ze (Al Ad8 #[_,_,_,_,_,_,_]) ?_;rintro _ _ ⟨b1,rfl,rfl⟩;refine Xe (Xw AV8 _) ?_;refine Za Y<|Z0<|Zn [0,1,6] ?_;refine Zx<|Zq<|Zg<|Zm Y<|Zp Y V<|Zh 0 AZ7 V rfl Aj1 Y<|Zl Am1 Y ?_;refine Zm Y<|Ze (Kq (CO AV3 (D:=fun _=>True)) Af5 hok.map (fun _ _=>trivial) (trivial) Y Y Wo) ?_;rintro _ _ ⟨rfl,es2,ck2,lm2,hm2,hp2,rfl⟩;refine Z0<|Zx<|Zq<|Zg<|Zm Y<|Zp Y V<|Zh 1 AZ7 V rfl Ah0 Y<|Xe (Zs Ah0 Y Y V) ?_;refine Z0<|Zx<|Zq<|Zg<|Zm Y<|Za Y<|Z0<|Zx<|AC<|AL V results98 Y (by exact ⟨es2,ck2,lm2,V,jV hok _ hm2 hp2,V⟩)
theorem fZ{bx mq:Nat}(hok:EM qs es ck lm){id:Int}(hid:∀x∈qs,x.1≠id){q:QM}(hq:BH q)(hl:qs.length<500):BR Tryz.prog 99 #[I5 bx,I4 id,(.agg #[I4 q.kd,I4 q.tb,I4 q.cl,I4 q.lo,I4 q.hi,I4 q.bq,I4 q.ot]:Value)] [[(bx,.cells #[.map (some mq),lv] 186 (0,0))],[(mq,.map es ck)]] (fun r H'=>∃es' ck' lm',r=I4 0/\EM (qs++[(id,q)]) es' ck' lm'/\H'=[[(bx,.cells #[.map (some mq),.pointer none] 186 (0,0))],[(mq,.map es' ck')]]):=by
 have hg:=hok.none hid;have hll:=hok.len
 refine Se func99 ntmps99 [0,1,2] ?_;intro u R;refine Zq<|Zg<|Ze (Bx #[_,_,_,_,_,_,_]) ?_;rintro _ _ ⟨b1,rfl,rfl⟩;refine Za Y<|Z0<|Zx<|Zq<|Zq<|Zg<|Zm Y<|Zv (BU underlying116 Y Y)<|Z0<|Zx<|AR Y (fun hb9=>?_) (fun hb9=>?_)
 ·
  cases hb9
 refine AJ<|Zx<|Zq<|Zq<|Zg<|Zm Y<|Zp Y V<|Zh 0 AZ7 V rfl Aj1 Y<|Zl Am1 Y ?_;refine Zm Y<|Zo Wh (De (CO AV3 (D:=fun _=>True)) Af5 Ad8 hok.map (fun _ _=>trivial) (trivial) (⟨by rw [hg];first|done|rfl,by rw [hg];first|done|rfl⟩) Y Y) ?_;refine Zm Y<|Zd Y V<|Zd Y V<|Ze (Al Ad8 #[_,_,_,_,_,_,_]) ?_;rintro _ _ ⟨b2,rfl,rfl⟩;refine Xe (Xw AV8 _) ?_;refine Za Y<|Z0<|Zn [0,1,5,8] ?_;refine Zx<|Zq<|Zg<|Zm Y<|Zm Y<|Aj (t:=21) Y V (fun g1=>?_) (fun g1=>?_)
 ·
  cases g1
 refine FJ Y Wh (Pa #[_,_,_,_,_,_,_] AX9 AV8 Y) V rfl ?_;refine Xr [_] Y call34 Y V (JJ q) ?_;rw [Am8 hq];refine Yg (Br Y)<|Zv (AU Y Y)<|Zm Y<|Aj (t:=26) Y V (fun g2=>?_) (fun g2=>?_)
 ·
  cases g2
 refine Zf Y Y<|Yg (Am Y V)<|Yf 0 AZ7 V rfl Aj1 Y<|Yl Am1 Y ?_;refine FJ Y Wh (PX Af5 hok.map Y) V rfl ?_;refine Yg (GK (n:=500) Y Y)<|Zv (AU Y Y)<|Z0<|Zn [0,1,5,33] ?_;refine Zx<|Aw Y (fun h8=>?_) (fun h8=>?_)
 ·
  exfalso;omega
 refine AJ<|Zx<|Zq<|Az (n:=13) (0::1::3::7::0::0::0::31::159::479::1023::2047::4095::[]) 4736 Ao8 Ao8 V<|An9 0 V (AP Y)<|An9 1 V (Am Y V)<|An9 2 V (AB (off:=0) AZ7 V rfl Aj1 Y)<|Ao0 3 V Am1 Y ?_;refine An9 4 V (AP Y)<|An9 5 V (AP Y)<|Ao4 6 V Wh (Pa #[_,_,_,_,_,_,_] AX9 AV8 Y) ?_;refine Yz 7 31 255 [6,3] [true,false] [(6,(_,_))] rfl Y rfl rfl rfl rfl (K6 (CO AV3 (D:=fun _=>True)) Af5 Ad8 hok.map (fun _ _=>trivial) (trivial) (by rw [hg];first|done|rfl) Y Y Wo) ?_;rintro _ _ ⟨es3,ck3,lm3,j3,st3,rfl,hm3,hj3,hb3,hp3,rfl⟩;refine ⟨Zk (AV),?_⟩;refine An9 8 V (Bt Y V)<|Zz (l:=[9])<|Ao5 [false] [] V rfl (IU hm3 hj3 hb3 Y Y Y Wo) ?hk_2 (fun _ _ h=>h.elim) ?hl_2
 case hk_2=>
  rintro _ _ ⟨rfl,es4,ck4,lm4,hm4,hp4,rfl⟩;refine ⟨AV,?_⟩;refine An9 10 V (Am Y V)<|An9 11 V (AB (off:=1) AZ7 V rfl Ah0 Y)<|Zz (l:=[12])<|Ao5 [] [] V rfl (Zs Ah0 Y Y V) ?hk_3 (fun _ _ h=>h.elim) ?hl_3
  case hk_3=>
   rintro _ _ ⟨rfl,rfl⟩;refine ⟨AV,?_⟩;refine Ag<|Zn [] ?_;refine Zx<|Zq<|Zg<|Za Y<|Z0<|Zx<|AC<|AL rfl results99 Y (by exact ⟨es4,ck4,lm4,rfl,jW hok hid hm4 (fun p=>by rw [hp4,hp3];exact Nn _ _ _ _),rfl⟩)
  exact Ae
 exact Ae
structure IvM where
 lo:Int
 hi:Int
 rc:Int
 id:Int
deriving Inhabited
def TP(M:List A8)(v:Value)(l:List IvM):Prop:=∃p cap,v= .slice p l.length cap/\(l.length<=maxLen/\l.length<=cap)/\∀(i:Nat) (x:IvM),l[i]?=some x->∃g off cur T zz,p=some ⟨g,off,none⟩/\(g,Obj.cells cur T zz)∈M/\off+i*4+4<=cur.size/\cur.extract (off+i*4) (off+i*4+4)=#[I4 x.lo,I4 x.hi,I4 x.rc,I4 x.id]
variable{l:List IvM}
theorem TP.mono{M':List A8}(h:TP M v l)(hm:∀c∈M,c∈M'):TP M' v l:=by
 obtain ⟨p,cap,e,hl,hg⟩:=h;refine ⟨p,cap,e,hl,fun i x hx=>?_⟩;obtain ⟨g,off,cur,T,zz,h1,h2,h3⟩:=hg i x hx;exact ⟨g,off,cur,T,zz,h1,hm _ h2,h3⟩
theorem TP.take(h:TP M (.slice p l.length cap) l){k:Nat}(hk:k<=l.length):TP M (.slice p k cap) (l.take k):=by
 obtain ⟨p',cap',e,hl,hg⟩:=h;injection e with e1 e2 e3
 subst e1 e3;refine ⟨p,cap,by rw [zN,AG8 hk],by rw [zN];omega,fun i x hx=>hg i x ?_⟩;rw [AA7]at hx;split at hx
 · exact hx
 · cases hx
def dL(a b:Int):Int:=if a<b then-1 else if b<a then 1 else 0
theorem Yn(a b:Int):dL a b<0↔a<b:=by
 unfold dL;split
 · exact ⟨fun _=>by assumption,fun _=>by decide⟩
 · split
   · exact ⟨fun h=>absurd h Ao9,fun h=>by omega⟩
   · exact ⟨fun h=>absurd h Ao9,fun h=>by omega⟩
theorem Np{α:Type}(p:α->Bool):∀{l:List α} {e:Nat},e<=l.length->(∀(k:Nat) (x:α),k<e->l[k]?=some x->p x=true)->(∀(k:Nat) (x:α),e<=k->l[k]?=some x->p x=false)->l.takeWhile p=l.take e
 |[],e,_,_,_=>by simp
 |x::l,0,_,_,h2=>by rw [AE8,Am6 (by rw [h2 0 x (zh _) rfl];decide),AC9]
 |x::l,e+1,he,h1,h2=>by
  rw [AE8,Am7 (h1 0 x Ao7 rfl),AN9,Np p (by simpa using he) (fun k y hk hy=>h1 (k+1) y Ao7 hy) (fun k y hk hy=>h2 (k+1) y Ao7 hy)]
def IP(v:Int)(l:List IvM):List Int:=(((l.takeWhile fun x=>decide (x.lo<=v)).reverse.takeWhile fun x=>decide (v<=x.rc)).filter fun x=>decide (v<=x.hi)).map (·.id)
def Me(v:Int)(l:List (Nat×IvM)):List Int:=((l.map (·.2)).filter fun x=>decide (v<=x.hi)).map (·.id)
theorem Rj(v:Int)(l:List (Nat×IvM))(x:Nat×IvM):Me v (l++[x])=Me v l++(if v<=x.2.hi then [x.2.id]else []):=by
 unfold Me;rw [zK,AB3,zK];congr 1;by_cases h:v<=x.2.hi
 · rw [Am7 h];simp [h]
 · rw [Am6 h];simp [h]
theorem MX{α:Type}(p:α->Bool):∀{l:List α},(∀x∈l,p x=true)->l.takeWhile p=l
 |[],_=>rfl
 |x::l,h=>by rw [AE8,Am7 (h x (zX ..)),MX p fun y hy=>h y (zW _ hy)]
theorem Kv{α:Type}(p:α->Bool){x:α}(hx:p x=false)(m:List α):∀{l:List α},(∀y∈l,p y=true)->(l++x::m).takeWhile p=l
 |[],_=>by rw [AD8,AE8,Am6 (by rw [hx];decide)]
 |y::l,h=>by rw [AF3,AE8,Am7 (h y (zX ..)),Kv p hx m fun z hz=>h z (zW _ hz)]
variable{e:Nat}
theorem qB{v:Int}(he:l.takeWhile (fun x=>decide (x.lo<=v))=l.take e)(h:∀y∈bwd (l.take e),v<=y.2.rc):Me v (bwd (l.take e))=IP v l:=by
 unfold Me IP;rw [he,MF,MX];intro x hx;rw [<-MF]at hx;obtain ⟨y,hy,rfl⟩:=zQ.1 hx;exact Am8 (h y hy)
theorem kD{v:Int}(he:l.takeWhile (fun x=>decide (x.lo<=v))=l.take e){pre post:List (Nat×IvM)}{x:Nat×IvM}(hb:bwd (l.take e)=pre++x::post)(h:∀y∈pre,v<=y.2.rc)(hx:x.2.rc<v):Me v pre=IP v l:=by
 unfold Me IP;rw [he,<-MF,hb,zK,zx,Kv _ (by simpa using hx)];intro z hz;obtain ⟨y,hy,rfl⟩:=zQ.1 hz;exact Am8 (h y hy)
theorem dK{v:Int}(he:l.takeWhile (fun x=>decide (x.lo<=v))=l.take e){pre post:List (Nat×IvM)}{x:Nat×IvM}(hb:bwd (l.take e)=pre++x::post)(h:∀y∈pre++[x],v<=y.2.rc)(hx:v<=x.2.hi):∃post',IP v l=Me v pre++x.2.id::post':=by
 unfold Me IP;have h1:∀{A:List IvM} {B:List IvM},(∀y∈A,decide (v<=y.rc)=true)->∃C,(A++B).takeWhile (fun x=>decide (v<=x.rc))=A++C:=fun{A B} hA=>by
  induction A with
  |nil=>exact ⟨_,rfl⟩
  |cons a A ih=>
   obtain ⟨C,hC⟩:=ih fun y hy=>hA y (zW _ hy);exact ⟨C,by rw [AF3,AE8,Am7 (hA a (zX ..)),hC,AF3]⟩
 rw [he,<-MF,hb,show pre++x::post=(pre++[x])++post by simp,zK];obtain ⟨C,hC⟩:=h1 (A:=(pre++[x]).map Prod.snd) (B:=post.map Prod.snd) fun z hz=>by
  obtain ⟨y,hy,rfl⟩:=zQ.1 hz;exact Am8 (h y hy)
 rw [hC,zK,AB3,AB3,zK,zK];refine ⟨(C.filter fun x=>decide (v<=x.hi)).map (·.id),?_⟩;simp [hx]
theorem SX(x:Int):BJ Tryz.prog 281 #[I4 x] [] (.bool false):=by
 refine Se func281 ntmps281 [0] ?_;intro u R;refine Zq<|Zg<|Za Y<|Z0<|Zx<|Zq<|Zg<|Zm Y<|Zm Y<|Zv (JN Y Y)<|Za Y<|Z0<|Zx<|AC<|AL V results281 Y (by exact ⟨by simp,V⟩)
theorem WI(a b:Int):BJ Tryz.prog 238 #[I4 a,I4 b] [] (I4 (dL a b)):=by
 refine Se func238 ntmps238 [0,1] ?_;intro u R;refine Zq<|Zg<|Za Y<|Z0<|Zx<|Zq<|Zg<|Zm Y<|Xr [_] Y call281 Y V (SX _) ?_;refine Za Y<|Z0<|Zx<|Zq<|Zg<|Zm Y<|Xr [_] Y call281 Y V (SX _) ?_;refine Za Y<|Z0<|Zx<|Zq<|Zq<|Zg<|Zm Y<|Z0<|Zx<|AR Y (fun h1=>?_) (fun h1=>?_)
 ·
  cases h1
 refine AJ<|Zx<|Zq<|Zq<|Zg<|Zm Y<|Z0<|Zx<|AR Y (fun h2=>?_) (fun h2=>?_)
 ·
  cases h2
 refine AJ<|Zx<|Zq<|Zq<|Zg<|Zm Y<|Zm Y<|Zv (Dq Y Y)<|Z0<|Zx<|Aw Y (fun h3=>?_) (fun h3=>?_)
 ·
  refine Zq<|Zg<|Za Y<|Z0<|Zn [4] ?_;refine Zx<|AC<|Zt<|AL V results238 Y (by exact ⟨by unfold dL;simp [*],V⟩)
 refine AJ<|Zx<|Zq<|Zq<|Zg<|Zm Y<|Zm Y<|Zv (FI Y Y)<|Z0<|Zn [19] ?_;refine Zx<|Aw Y (fun h4=>?_) (fun h4=>?_)
 ·
  refine Zq<|Zg<|Za Y<|Z0<|Zx<|AC<|Zt<|AL V results238 Y (by exact ⟨by unfold dL;simp [*],V⟩)
 refine AJ<|Zx<|Zq<|Zg<|Za Y<|Z0<|Zx<|AC<|AL V results238 Y (by exact ⟨by unfold dL;simp [*],V⟩)
theorem Xm(x:IvM)(t:Int):BJ Tryz.prog 245 #[.agg #[I4 x.lo,I4 x.hi,I4 x.rc,I4 x.id],I4 t] [] (I4 (dL x.lo t)):=by
 refine Se func245 ntmps245 [0,1] ?_;intro u R;refine Zq<|Zg<|Ze (Bx #[_,_,_,_]) ?_;rintro _ _ ⟨b1,rfl,rfl⟩;refine Za Y<|Z0<|Zx<|Zq<|Zg<|Zh 0 Ac5 V rfl AU1 Y<|Zl AU2 Y ?_;refine Zm Y<|Xr [_,_] Y call238 Y V (WI _ _) ?_;refine Za Y<|Z0<|Zx<|AC<|AL V results245 Y (by exact ⟨V,V⟩)
theorem WN(hv:TP M v l)(hn:l.length<=1000000)(hs:l.Pairwise fun a b=>a.lo<=b.lo)(t:Int):BR Tryz.prog 244 #[v,I4 t,.func (.func 245) #[] #[]] [M] (fun r H'=>∃(e:Nat) (b:Bool),r= .tuple #[I4 (e:Int),.bool b]/\e<=l.length/\(∀(k:Nat) (x:IvM),k<e->l[k]?=some x->x.lo<t)/\(∀(k:Nat) (x:IvM),e<=k->l[k]?=some x->t<=x.lo)/\H'=[M]):=by
 have hml:=mL;obtain ⟨p,cap,rfl,⟨hl,hlc⟩,hg⟩:=id hv;have hmon:∀(i j:Nat) (x y:IvM),i<=j->l[i]?=some x->l[j]?=some y->x.lo<=y.lo:=fun i j x y hij hx hy=>by
  rcases AB1 i j with h|h
  · obtain ⟨h1,rfl⟩:=zF.1 hx
    obtain ⟨h2,rfl⟩:=zF.1 hy;exact AJ8.1 hs i j h1 h2 h
  · obtain rfl:i=j:=by omega
    rw [hx]at hy;injection hy with hy;rw [hy];exact AM6 _
 refine Se func244 ntmps244 [0,1,2] ?_;intro u R;refine Zq<|Zg<|Za Y<|Za Y<|Z0<|Zx<|Zq<|Zg<|Zm Y<|Zv (Aa Af9 Y)<|Za Y<|Z0<|Zx<|Zq<|Zg<|Zm Y<|Za Y<|Za Y<|Z0<|Zx<|Zq<|AO<|Zb [9,10,0,1,2,8] ?_;refine BI (e0:=[(9,_),(10,_)]) (fun m e H=>∃(i j:Nat),m=j -i/\((i<=j/\j<=l.length)/\(∀(k:Nat) (x:IvM),k<i->l[k]?=some x->x.lo<t)/\(∀(k:Nat) (x:IvM),j<=k->l[k]?=some x->t<=x.lo))/\e=[(9,I4 (i:Int)),(10,I4 (j:Int))]/\H=[]) (by exact ⟨0,l.length,rfl,⟨⟨zT _,zh _⟩,fun k x h=>absurd h (AM8 k),fun k x h hx=>by rw [AC7 h]at hx;cases hx⟩,rfl,rfl⟩) Wp ?_;rintro _ _ _ ⟨i,j,rfl,⟨⟨hij,hjl⟩,hlo,hhi⟩,rfl,rfl⟩;refine Zq<|Zq<|Zg<|Zm Y<|Zm Y<|Zv (Au Y Y)<|Z0<|Zx<|Aw Y (fun hlt=>?_) (fun hlt=>?_)
 ·
  refine AJ<|Zx<|AO<|Zq<|Zg<|Zm Y<|Zm Y<|Ya Y Y ?_;refine Bq (LM AV3 Ac1 Y Ao7)<|Bq (PS (n:=1) Y Y (by first|decide|(simp [IntKind.bits];done)|(simp [IntKind.bits];omega)))<|Bq (Ry Ac1 AV3 Y Ao7)<|Za Y<|Z0<|Zx<|Zq ?_;obtain ⟨h,hh⟩:∃h,h=(i+j)/2^1:=⟨_,rfl⟩;rw [<-hh];have hhb:i<=h/\h<j:=by rw [hh];omega
  obtain ⟨x,hx⟩:∃x,l[h]?=some x:=⟨_,zD Ao7⟩;obtain ⟨g,off,cur,T,zz,rfl,hm9,hsz9,hex9⟩:=hg _ _ hx;refine Zg<|Zm Y<|Zm Y<|Zm Y<|Bq (Ai Af9 Ad2 Y Y Ao7)<|CW (Gc Wo (hm9)) (AA (cs:=#[I4 x.lo,I4 x.hi,I4 x.rc,I4 x.id]) isAgg282 Ad2 Y Ao7 (by exact hex9)) V rfl ?_;refine Zm Y<|Xr [_,_] Y call245 Y V (Xm x t) ?_;refine Zv (Dq Y Y)<|Z0<|Zn [0,1,2,8,9,10,11,31] ?_;refine Zx<|Aw Y (fun h4=>?_) (fun h4=>?_)
  ·
   refine Zg<|Zm Y<|Ya (n:=1) Y Y<|Za Y<|Z0<|A9<|Zn [9,10,0,1,2,8] ?_;refine Ad (e':=[(9,_),(10,_)]) (by exact ⟨h+1,j,V,⟨⟨by omega,by omega⟩,fun k y hk hy=>by have:=hmon k h y x Ao7 hy hx;have:=(Yn _ _).1 h4;omega,hhi⟩,V,V⟩)
  refine Zg<|Zm Y<|Za Y<|Z0<|A9<|Zn [9,10,0,1,2,8] ?_;refine Ad (e':=[(9,_),(10,_)]) (by exact ⟨i,h,V,⟨⟨by omega,by omega⟩,hlo,fun k y hk hy=>by have:=hmon h k x y hk hx hy;have:=mt (Yn x.lo t).2 h4;omega⟩,V,V⟩)
 obtain rfl:i=j:=by omega
 refine BG<|Zt<|Zt<|AX<|Zx<|Zq<|Zg<|Zm Y<|Zm Y<|Zm Y<|Zv (Au Y Y)<|Zm Y<|Ak (t:=39) Y V (fun h5=>?_) (fun h5=>?_)
 ·
  obtain ⟨x,hx⟩:∃x,l[i]?=some x:=⟨_,zD Ao7⟩;obtain ⟨g,off,cur,T,zz,rfl,hm9,hsz9,hex9⟩:=hg _ _ hx;refine Zf Y Y<|Zf Y Y<|Zf Y Y ?_
  (refine Kg Y (Ai Af9 Ad2 Y Y ?_) rfl rfl ?_;(focus (omega)))
  refine Vk Y (Gc Wo (hm9)) (AA (cs:=#[I4 x.lo,I4 x.hi,I4 x.rc,I4 x.id]) isAgg282 Ad2 Y Ao7 (by exact hex9)) V rfl ?_;refine Zf Y Y<|Xr [_,_] Y call245 Y V (Xm x t) ?_;refine Yg (CL Y Y)<|Zv (AZ Y Y)<|Za Y<|Za Y<|Z0<|Zn [6,7] ?_;refine Zx<|AC<|Ci V results244 Y Y (by exact ⟨i,_,V,hjl,hlo,hhi,V⟩)
 refine A7 Y V<|A7 Y V<|A7 Y V<|A7 Y V<|A7 Y V<|A7 Y V<|A7 Y V<|A7 Y V<|Zv (AU Y Y)<|Za Y<|Za Y<|Z0<|Zn [6,7] ?_;refine Zx<|AC<|Ci V results244 Y Y (by exact ⟨i,_,V,hjl,hlo,hhi,V⟩)
theorem Yy(p:Option Addr)(n c:Nat):BR Tryz.prog 246 #[.slice p n c] [] (fun r H'=>∃b,r= .func (.func 283) #[] #[I5 b]/\H'=[[(b,.cells #[.slice p n c] 283 (0,0))]]):=by
 refine Se func246 ntmps246 [0] ?_;intro u R;refine Zq<|Zg<|Ze (Bx #[_]) ?_;rintro _ _ ⟨b,rfl,rfl⟩;refine Za Y<|Z0<|Zx<|Zq<|Zg<|Zv (Bb (vs:=[]) (us:=[_]) Y Y)<|Za Y<|Z0<|Zx<|AC<|AL V results246 Y (by exact ⟨_,V,V⟩)
theorem Z4{ls:List IvM}(hv:TP M v ls)(b:Nat)(hn:ls.length<=1000000):MI Tryz.prog 283 #[I5 b] [[(b,.cells #[v] 283 (0,0))]] (fun s=>∀c∈M,c∈s) (fun x:Nat×IvM=>#[I4 ((x.1:Nat):Int),.agg #[I4 x.2.lo,I4 x.2.hi,I4 x.2.rc,I4 x.2.id]]) (bwd ls):=by
 have hml:=mL;obtain ⟨p,cap,rfl,hl,hg⟩:=hv;intro l J Jx hA hy s hJ;refine Se func283 ntmps283 [0,1] ?_;intro u R;refine Zq<|Zg<|Zl isAgg283 Y ?_;refine Zv (Aa Af9 Y) ?_
 (refine Bq (Hz Y Y (IntWalk.i64_in _ ?_)) ?_;(focus (omega)))
 refine Za Y<|Z0<|Zx<|AO<|Zb [3,0,1] ?_;refine BI (e0:=[(3,_)]) (fun m e H=>∃(k:Nat) (s:List A8),m=0+k/\(k<=ls.length/\J ((bwd ls).take (ls.length -k)) s)/\e=[(3,I4 ((k:Int) -1))]/\H=[[(b,.cells #[.slice p ls.length cap] 283 (0,0))],s]) (by exact ⟨ls.length,s,rfl,⟨zh _,by rw [AL5,AC9];exact hJ⟩,rfl,rfl⟩) Wp ?_;rintro _ _ _ ⟨k,s,rfl,⟨hk,hJ⟩,rfl,rfl⟩;refine Zq<|Zq<|Zg<|Zm Y<|Zv (Iq Y Y)<|Z0<|Zx<|Aw Y (fun hlt=>?_) (fun hlt=>?_)
 ·
  obtain ⟨m,rfl⟩:∃m,k=m+1:=⟨k -1,by omega⟩;rw [show(((m+1:Nat):Int) -1)=((m:Nat):Int) by omega];obtain ⟨z9,hz9⟩:∃z9,ls[m]?=some z9:=⟨_,zD Ao7⟩;have hb9:=dS hz9
  obtain ⟨g,o,cur,T,zz,rfl,hm,hsz9,hex9⟩:=hg m z9 hz9;have hyk:=hy _ _ _ s (Ns hb9) hJ
  refine AJ<|Zx<|Zq<|AO<|Zq<|Zg<|Zm Y<|Zm Y<|Zl isAgg283 Y ?_;refine Zm Y<|Bq (Ai Af9 Ad2 Y Y Ao7)<|CW (Gc Wo (hA _ s hJ _ hm)) (AA (cs:=#[I4 z9.lo,I4 z9.hi,I4 z9.rc,I4 z9.id]) isAgg282 Ad2 Y Ao7 (by exact hex9)) V rfl ?_;refine Ze (Fz (vs:=[_,_]) Y Y (hyk) Wp) ?_;rintro _ _ ⟨_,⟨s',rfl,hyr⟩,rfl⟩;rcases hyr with⟨rfl,hJ'⟩|⟨rfl,hJx⟩
  ·
   refine Zv (Br Y)<|Z0<|Zx<|AR Y (fun hb=>?_) (fun hb=>?_)
   ·
    cases hb
   refine AJ<|A9<|Zx<|Zg<|Zm Y ?_
   (refine Bq (Hz Y Y (IntWalk.i64_in _ ?_)) ?_;(focus (omega)))
   refine Za Y<|Z0<|Zn [3,0,1] ?_;refine Ad (e':=[(3,_)]) (by exact ⟨m,s',rfl,⟨by omega,by rw [show ls.length -m=ls.length -(m+1)+1 by omega,Bc hb9];exact hJ'⟩,rfl,rfl⟩)
  refine Zv (Br Y)<|Z0<|Zx<|AR Y (fun hb=>?_) (fun hb=>?_)
  ·
   refine AC<|Ab<|Zt<|Zt<|Ab ?_;refine Cj V results283 (by exact ⟨s',V,.inr ⟨_,hJx⟩⟩)
  cases hb
 have hk0:k=0:=by omega
 subst hk0;rw [AJ3,AB6 (by rw [WM];exact zh _)]at hJ;refine BG<|Zt<|Zt<|AX<|Cj V results283 (by exact ⟨s,V,.inl hJ⟩)
theorem WH(hv:TP M lv l)(hn:l.length<=1000000)(hs:l.Pairwise fun a b=>a.lo<=b.lo)(v:Int)(hvb:-1000000000000<=v/\v<=1000000000000)(bl bv:Nat):Ep Tryz.prog 243 #[I5 bl,I5 bv] [[(bl,.cells #[lv] 283 (0,0))],[(bv,.cells #[I4 v] 3 (0,0))]] (fun s=>∀c∈M,c∈s) (fun i:Int=>#[I4 i]) (IP v l):=by
 have hml:=mL;obtain ⟨p,cap,rfl,⟨hl,hlc⟩,hg⟩:=id hv;intro ly J hA hy s hJ;refine Cz func243 V ntmps243 V ?_;intro u R;refine Zb [0,1,2] ?_;refine Zq<|Zg<|Ze (Bx #[_]) ?_;rintro _ _ ⟨by_,rfl,rfl⟩;refine Z0<|Zx<|Zq<|Zg<|Zl isAgg283 Y ?_;refine Zl AU2 Y ?_;refine Yi Y Y<|Zc [_,_,_] Y call244 Y V (WN (hv.mono (hA _ s hJ)) hn hs (v+1)) ?_;rintro _ _ ⟨_,⟨e,fb,rfl,hel,he1,he2,rfl⟩,rfl⟩;have hev:l.takeWhile (fun x=>decide (x.lo<=v))=l.take e:=Np _ hel (fun k x hk hx=>Am8 (by have:=he1 k x hk hx;omega)) (fun k x hk hx=>Am5 (by have:=he2 k x hk hx;omega))
 refine Zm Y<|Zd Y V<|Zd Y V<|Za Y<|Za Y<|Z0<|Zx<|Zq<|Zg<|Zl isAgg283 Y ?_;refine Zm Y<|Bq (CK Af9 Ad2 Y Y Ao7)<|Zc [_] Y call246 Y V (Yy _ _ _) ?_;rintro _ _ ⟨_,⟨bb,rfl,rfl⟩,rfl⟩;refine Z0<|Zn [2,3,18] ?_;refine Zx<|AO<|Zb [2,3,18] ?_;refine WQ (Ix:=(fun(_:List (Nat×IvM)) H=>∃s,J (IP v l) s/\H=[[(bv,.cells #[I4 v] 3 (0,0))],[(by_,.cells #[.func (.yield ly) #[] #[]] 112 (0,0))],s])) (H0:=_) (R:=_) (I:=(fun(pre:List (Nat×IvM)) H=>∃s,(J (Me v pre) s/\∀y∈pre,v<=y.2.rc)/\H=[[(bv,.cells #[I4 v] 3 (0,0))],[(by_,.cells #[.func (.yield ly) #[] #[]] 112 (0,0))],s])) (E:=fun x e Hn=>∃bx,e=[(7,I5 bx),(20,.agg #[I4 x.2.lo,I4 x.2.hi,I4 x.2.rc,I4 x.2.id]),(19,I4 ((x.1:Nat):Int))]/\Hn=[[(bx,.cells #[I4 x.2.lo,I4 x.2.hi,I4 x.2.rc,I4 x.2.id] 282 (0,0))]]) rfl Y call283 (Z4 (hv.take hel) bb (by rw [zN];omega)) (by rintro pre _ c d ⟨s,h1,rfl⟩;intro q hq;have:=hA _ s h1.1 q hq;simp [this]) Y rfl Wp (⟨s,⟨hJ,fun y hy=>by simp at hy⟩,rfl⟩) ?ha_2 ?hbd_2 ?hk_2 ?hkx_2
 case ha_2=>
  intro _ x _ _;refine Zg<|Ze (Al zeroValue282 #[_,_,_,_]) ?_;rintro _ _ ⟨b2,rfl,rfl⟩;refine Xe (Xw Ad2 _) ?_;refine Z0<|LQ (e:=[(7,_),(20,_),(19,_)]) (Hn:=[[(_,_)]]) ?_;exact ⟨_,V,V⟩
 case hbd_2=>
  intro l pre x post u e9 Hn9 H1 R1 r9 hxs hI hE9;obtain ⟨bx,rfl,rfl⟩:=hE9;obtain ⟨s,⟨hJ,hall⟩,rfl⟩:=hI;refine AO<|Zq<|Zq<|Zg<|Zh 2 Ac5 V rfl AU1 Y<|Zl AU2 Y ?_;refine Zl AU2 Y ?_;refine Zv (Dq Y Y)<|Z0<|Zx<|Aw Y (fun h1=>?_) (fun h1=>?_)
  ·
   refine AC<|Zt<|Ab ?_;refine iY rfl (by exact ⟨s,by rw [<-kD hev hxs hall h1];exact hJ,rfl⟩)
  have hall2:∀y∈pre++[x],v<=y.2.rc:=fun y hy=>(zJ.1 hy).elim (hall y) (fun h=>by rw [zI.1 h];omega);refine AJ<|Zx<|Zq<|Zg<|Zh 1 Ac5 V rfl AU1 Y<|Zl AU2 Y ?_;refine Zl AU2 Y ?_;refine Zv (Iq Y Y)<|Zm Y<|Ak (t:=29) Y V (fun h2=>?_) (fun h2=>?_)
  ·
   obtain ⟨post',hsp⟩:=dK hev hxs hall2 h2;have hyk:=hy _ _ _ s hsp hJ
   refine Yl isAgg112 Y ?_;refine Yf 3 Ac5 V rfl AU1 Y<|Yl AU2 Y ?_;refine Ze (Fz (vs:=[_]) Y Y (hyk) Wp) ?_;rintro _ _ ⟨_,⟨s',rfl,rfl,hJ'⟩,rfl⟩;refine Yg (Br Y)<|Zv (AZ Y Y)<|Z0<|Zn [35] ?_;refine Zx<|AR Y (fun hb=>?_) (fun hb=>?_)
   ·
    cases hb
   refine AJ<|A9<|Ue rfl (by exact ⟨s',⟨by rw [Rj,Am7 h2];exact hJ',hall2⟩,rfl⟩)
  refine A7 Y V<|A7 Y V<|A7 Y V<|A7 Y V<|A7 Y V<|Zv (AU Y Y)<|Z0<|Zn [35] ?_;refine Zx<|Dv Y<|AJ<|A9<|Ue rfl (by exact ⟨s,⟨by rw [Rj,Am6 h2,zV];exact hJ,hall2⟩,rfl⟩)
 case hk_2=>
  intro D1 H2 hI2;obtain ⟨s,⟨hJ,hall⟩,rfl⟩:=hI2;rw [qB hev hall]at hJ;refine Zn [] ?_;refine A9<|Fq V (wI results243) Wo (by exact ⟨s,V,hJ⟩)
 intro D1 pre9 H2 hI2;obtain ⟨s,hJ,rfl⟩:=hI2;refine Ab ?_;refine Fq V (wI results243) Wo (by exact ⟨s,V,hJ⟩)
end Go.Proofs.YteaiajghbkenoaaGreatDoor
namespace Go.Proofs
open Go.Shelf
def Tryz.sortIv_ren:Go.Shelf.Ren:=⟨fun|6=>240|15=>117|14=>282|28=>199|29=>200|20=>316|21=>317|22=>318|23=>319|24=>320|25=>321|26=>322|27=>323|46=>338|47=>250|48=>251|49=>339|50=>340|57=>347|n=>n,fun|22=>280|24=>282|25=>339|3=>3|39=>222|0=>0|53=>300|55=>302|4=>4|46=>292|45=>291|50=>297|5=>5|9=>9|66=>348|70=>108|76=>385|77=>386|n=>n,fun|n=>n⟩
theorem Tryz.sortIv:Go.Proofs.SlLaysF0.n6 Tryz.prog Tryz.sortIv_ren:={
 mixed:=by kernel_rfl
 f6:=⟨Tryz.f240.name,by decide,func240.trans (congrArg some Ao8)⟩
 f14:=⟨Tryz.f282.name,by decide,func282.trans (congrArg some Ao8)⟩
 f15:=func117.trans (congrArg some Ao8)
 f20:=⟨Tryz.f316.name,by decide,func316.trans (congrArg some Ao8)⟩
 f21:=⟨Tryz.f317.name,by decide,func317.trans (congrArg some Ao8)⟩
 f22:=⟨Tryz.f318.name,by decide,func318.trans (congrArg some Ao8)⟩
 f23:=⟨Tryz.f319.name,by decide,func319.trans (congrArg some Ao8)⟩
 f24:=⟨Tryz.f320.name,by decide,func320.trans (congrArg some Ao8)⟩
 f25:=⟨Tryz.f321.name,by decide,func321.trans (congrArg some Ao8)⟩
 f26:=⟨Tryz.f322.name,by decide,func322.trans (congrArg some Ao8)⟩
 f27:=⟨Tryz.f323.name,by decide,func323.trans (congrArg some Ao8)⟩
 f28:=func199.trans (congrArg some Ao8)
 f29:=func200.trans (congrArg some Ao8)
 f46:=⟨Tryz.f338.name,by decide,func338.trans (congrArg some Ao8)⟩
 f47:=func250.trans (congrArg some Ao8)
 f48:=func251.trans (congrArg some Ao8)
 f49:=⟨Tryz.f339.name,by decide,func339.trans (congrArg some Ao8)⟩
 f50:=⟨Tryz.f340.name,by decide,func340.trans (congrArg some Ao8)⟩
 f57:=⟨Tryz.f347.name,by decide,func347.trans (congrArg some Ao8)⟩
 t0:=Ag3
 a0:=isAgg0
 z0:=sizeOf0
 v0:=Ah9
 t3:=AV3
 a3:=AU2
 z3:=AU1
 v3:=AX6
 t4:=AZ3
 a4:=Ab8
 z4:=AX8
 v4:=Ae9
 t5:=Aa0
 a5:=Am2
 z5:=Ad5
 v5:=Ac8
 t9:=AW6
 a9:=Af1
 z9:=AY6
 v9:=AY5
 t22:=Ad3
 a22:=isAgg280
 z22:=sizeOf280
 v22:=zeroValue280
 t25:=underlying339
 a25:=isAgg339
 z25:=sizeOf339
 v25:=zeroValue339
 t39:=Ac1
 a39:=isAgg222
 z39:=Ak4
 v39:=Ag6
 t45:=Aj3
 a45:=isAgg291
 z45:=sizeOf291
 v45:=Ak6
 t46:=Aj4
 a46:=isAgg292
 z46:=sizeOf292
 v46:=Ak7
 t50:=Aj2
 a50:=isAgg297
 z50:=sizeOf297
 v50:=Ak5
 t53:=Aa6
 a53:=Aa5
 z53:=AX2
 v53:=Ag7
 t55:=Ac2
 a55:=Ai3
 z55:=Ai7
 v55:=Ag8
 t66:=Aj5
 a66:=isAgg348
 z66:=sizeOf348
 v66:=Ak8
 t70:=Aj6
 a70:=isAgg108
 z70:=Af2
 v70:=Ac9
 t76:=Aj7
 a76:=isAgg385
 z76:=sizeOf385
 v76:=Ak9
 t77:=Aj8
 a77:=isAgg386
 z77:=sizeOf386
 v77:=Al0}
end Go.Proofs
namespace Go.Proofs.YteaiajghbkenoaaGreatDoor
open Go.Proofs.Tryz
open Go Go.RowKit Gw
set_option maxRecDepth 100000
attribute [local irreducible] Gw.At Gw.Nx Gw.Ops
open Go.Sort Go.Shelf
theorem dM(a b:IvM)(W:World):Calls Tryz.prog 241 #[.agg #[I4 a.lo,I4 a.hi,I4 a.rc,I4 a.id],.agg #[I4 b.lo,I4 b.hi,I4 b.rc,I4 b.id]] W fun e w'=>e= .returned (I4 (Lib.compareInt a.lo b.lo))/\∃q os',w'=grow (W.drewN q) os':=by
 go_enter func241,ntmps241
 go_wp2
 all_goals (try simp only [Am9]at*)
 all_goals go_ret
 all_goals refine ⟨?_,0,_,by rw [alloc_eq_grow,alloc_eq_grow,grow_grow];rfl⟩
 all_goals (simp [Lib.compareInt]<;>(try split)<;>(first|rfl|omega))
def CB(l:List IvM):List Value:=l.flatMap fun x=>[I4 x.lo,I4 x.hi,I4 x.rc,I4 x.id]
instance:Inhabited IvM:=⟨⟨0,0,0,0⟩⟩
def Mm(x:IvM):List Value:=[I4 x.lo,I4 x.hi,I4 x.rc,I4 x.id]
def Yo(a b:IvM):Int:=Lib.compareInt a.lo b.lo
theorem QB(l:List IvM):(CB l).length=l.length*4:=by
 induction l with
 |nil=>rfl
 |cons a l ih=>simp only [CB,AB2,zG,ze]at ih⊢;rw [ih];simp;omega
theorem ltI(a b:IvM):ltOf Yo a b=decide (a.lo<b.lo):=by
 unfold ltOf Yo Lib.compareInt;apply decide_eq_decide.2;split<;>(try split)<;>omega
theorem yX:SWO (ltOf Yo)where
 irrefl x:=by rw [ltI];simp
 trans x y z h1 h2:=by rw [ltI]at*;simp only [Am9]at*;omega
 ntrans x y z h1 h2:=by rw [ltI]at*;simp only [An0]at*;omega
theorem aB(w:Value)(o:List IvM)(s:List A8)(hn:o.length<=1000000)(hro:BZ 4 282 w o.length (CB o) s):
 BR Tryz.prog 240 #[w,.func (.func 241) #[] #[]] [s]
  (fun r H'=>r= .tuple #[]/\∃(s':List A8) (o':List IvM),o'.Perm o/\(o'.Pairwise fun a b=>a.lo<=b.lo)/\BZ 4 282 w o'.length (CB o') s'/\H'=[s']):=by
 obtain ⟨hlen,⟨rfl,h0,rfl⟩|⟨g,cap,cur,z,rfl,rfl,hle,hcm,hcs,htk,hfr⟩⟩:=hro
 · intro u R w0 hs
   have ho:o=[]:=AB0 h0;subst ho;have hN:=AnyF.slices_SortFunc_none Tryz.sortIv none 0 (.func (.func 241) #[] #[]) w0
   exact hN.mono (by
    rintro e w' ⟨rfl,rfl⟩;exact .inl ⟨_,_,V,⟨V,[],[],.refl _,.nil,Bf _ _,V⟩,hs⟩)
 · intro u R w0 hs
   have hb:=hs.get (g,.cells cur 282 z) Ap0;have hH:=Sd (w:=w0) (g:=g) (cur:=cur) (e:=282) (z:=z) Mm 4 (fun _=>rfl) o hb (by rw [hcs];omega) hfr htk
   have eg:∀(args:Array Value) (w:World),(callFunc 241 args).run Tryz.prog w= .ok (.enter 241 args) w:=enters_of func241 Ao8 rfl;have hcmp:CmpLays Tryz.prog 241 #[] Mm 4 Yo g 0 o.toArray.size w0:=by
    intro m os dk hsz x y;exact dM x y _
   have hcon:=AnyQ.slices_SortFunc Tryz.sortIv 4 isAgg282 Ad2 Mm (fun _=>rfl) (fun x v hv=>by simp [Mm]at hv;rcases hv with rfl|rfl|rfl|rfl<;>rfl) Yo yX 241 #[] g 0 cap o.toArray w0 eg hcmp hH (hs.lt (p:=(g,.cells cur 282 z)) Ap0) Ap8;refine hcon.mono ?_;rintro e w' ⟨rfl,d',n,os,⟨hds,-,hpm⟩,hso,rfl⟩;have hds':d'.size=o.length:=by simpa using hds
   have hF:(flatK Mm 4 d').toList=CB d'.toList:=NP Mm 4 (fun _=>rfl) d'.toList;have hFs:(flatK Mm 4 d').size=o.length*4:=by rw [size_flatK,hds']
   have hpm2:d'.toList.Perm o:=by
    have e1:d'.extract 0 o.toArray.size=d':=by
     rw [show o.toArray.size=d'.size by rw [hds'];simp];exact Array.extract_size
    rw [e1]at hpm;simpa using hpm
   have hpl:d'.toList.length=o.length:=hpm2.length_eq;refine .inl ⟨_,[[(g,.cells (putCells id 0 (flatK Mm 4 d') cur) 282 z)]],V,⟨V,_,d'.toList,hpm2,?_,?_,V⟩,hs.sortedK Mm d' os⟩
   · rw [AJ8]
     intro i j hi hj hij;have h:=hso i j (zT _) hij Ap8
     rw [ltI]at h;simp only [An0]at h;rw [getElem!_pos d' i (by simpa using hi),getElem!_pos d' j (by simpa using hj)]at h;simp only [Array.getElem_toList];omega
   · rw [hpl]
     refine ⟨by rw [QB,hpl],.inr ⟨g,cap,_,z,rfl,rfl,hle,hcm,by rw [Lt];exact hcs,?_,by rw [Lt];exact hfr⟩⟩;have h:=UQ cur (flatK Mm 4 d') (by rw [hFs,hcs];omega)
     rw [hFs,hF]at h;exact h
end Go.Proofs.YteaiajghbkenoaaGreatDoor
namespace Go.Proofs.YteaiajghbkenoaaGreatDoor
open Go.Proofs.Tryz
open Go Go.RowKit Gw
set_option maxRecDepth 100000
attribute [local irreducible] Gw.At Gw.Nx Gw.Ops
variable{l:List IvM}{i:Nat}{x:IvM}
theorem Y5(h:l[i]?=some x):(CB l)[i*4+1]?=some (I4 x.hi)/\(CB l)[i*4+2]?=some (I4 x.rc):=by
 induction l generalizing i with
 |nil=>simp at h
 |cons a l ih=>
  cases i with
  |zero=>simp at h;subst h;exact ⟨rfl,rfl⟩
  |succ i=>
   have h':l[i]?=some x:=by simpa using h
   rw [show(i+1)*4+1=i*4+1+4 by omega,show(i+1)*4+2=i*4+2+4 by omega];exact ih h'
theorem Y4(h:l[i]?=some x)(r:Int):(CB l).set (i*4+2) (I4 r)=CB (l.set i {x with rc:=r}):=by
 induction l generalizing i with
 |nil=>simp at h
 |cons a l ih=>
  cases i with
  |zero=>simp at h;subst h;rfl
  |succ i=>
   have h':l[i]?=some x:=by simpa using h
   rw [show(i+1)*4+2=i*4+2+4 by omega];have:=ih h'
   show _::_::_::_::(CB l).set (i*4+2) (I4 r)=_;rw [this];rfl
variable{cur:Array Value}{n:Nat}
theorem oM(ht:cur.toList.take (n*4)=CB l)(h:l[i]?=some x):cur[i*4+1]?=some (I4 x.hi)/\cur[i*4+2]?=some (I4 x.rc):=by
 obtain ⟨h1,h2⟩:=Y5 h;rw [<-ht,AA7]at h1 h2;constructor
 · by_cases hc:i*4+1<n*4
   · rw [Am7 hc]at h1;simpa using h1
   · rw [Am6 hc]at h1;cases h1
 · by_cases hc:i*4+2<n*4
   · rw [Am7 hc]at h2;simpa using h2
   · rw [Am6 hc]at h2;cases h2
theorem oL(ht:cur.toList.take (n*4)=CB l)(h:l[i]?=some x)(r:Int):(cur.setIfInBounds (i*4+2) (I4 r)).toList.take (n*4)=CB (l.set i {x with rc:=r}):=by
 rw [AJ2,List.take_set,ht,Y4 h]
theorem eH{g cw:Nat}{z:Nat×Nat}(hn:l.length=n)(htk:cur.toList.take (n*4)=CB l)(hle:n<=cw)(hcm:cw<=maxLen)(hcs:cur.size=cw*4)(hfr:IA z cur.size):BZ 4 282 (I6 g n cw) l.length (CB l) [(g,.cells cur 282 z)]:=by
 subst hn;exact ⟨QB l,.inr ⟨g,cw,cur,z,V,V,hle,hcm,hcs,htk,hfr⟩⟩
def NK(x:IvM):Int×Int×Int:=(x.lo,x.hi,x.id)
def kW(l:List IvM)(i:Nat):Prop:=∀(j k:Nat) (x y:IvM),j<=k->k<i->l[j]?=some x->l[k]?=some y->x.hi<=y.rc
theorem UE{r:Int}(h:kW l i)(hx:l[i]?=some x)(hr:x.hi<=r)(hp:∀y,0<i->l[i -1]?=some y->y.rc<=r):kW (l.set i {x with rc:=r}) (i+1):=by
 have hil:=(zF.1 hx).1;intro j k a b hjk hk ha hb;rw [AG1]at ha hb;rcases AB1 k i with hki|hki
 · rw [Am6 Ao7]at ha hb
   exact h j k a b hjk hki ha hb
 · obtain rfl:k=i:=by omega
   rw [Am7 rfl,Am7 hil]at hb;injection hb with hb
   subst hb;by_cases hjk':k=j
   · rw [Am7 hjk',Am7 hil]at ha;injection ha with ha;subst ha;exact hr
   · rw [Am6 hjk']at ha
     obtain ⟨y,hy⟩:∃y,l[k -1]?=some y:=⟨_,zD Ao7⟩;have h1:=h j (k -1) a y Ao7 Ao7 ha hy
     have h2:=hp y Ao7 hy;show a.hi<=r
     omega
theorem SL{r:Int}(hx:l[i]?=some x):(l.set i {x with rc:=r}).map NK=l.map NK:=by
 apply AD5;intro k;rw [zY,zY,AG1];by_cases hk:i=k
 · subst hk
   rw [Am7 rfl,Am7 (zF.1 hx).1,hx];rfl
 · rw [Am6 hk]
theorem bE(w:Value)(o:List IvM)(s:List A8)(hn:o.length<=1000000)(hro:BZ 4 282 w o.length (CB o) s):BR Tryz.prog 183 #[w] [s] (fun r H'=>r=w/\∃(s':List A8) (l o':List IvM),o'.Perm o/\(o'.Pairwise fun a b=>a.lo<=b.lo)/\l.map NK=o'.map NK/\kW l l.length/\BZ 4 282 w l.length (CB l) s'/\H'=[s']):=by
 have hml:=mL;obtain ⟨pw,cw,rfl⟩:=hro.form;refine Se func183 ntmps183 [0] ?_;intro u R;refine Zq<|Zg<|Za Y<|Z0<|Zx<|Zq<|Zg<|Zm Y<|Zc [_,_] Y call240 Y V (aB _ o s hn hro) ?_;rintro _ _ ⟨_,⟨rfl,s1,o1,hpm,hso,hr1,rfl⟩,rfl⟩;have hol:=hpm.length_eq
 refine Z0<|Zx<|Zq<|Zq<|Zg<|Zm Y<|Zv (Aa Ad3 Y)<|Zm Y<|Z0<|Zx<|AO<|Zb [8,0,7] ?_;refine BI (e0:=[(8,_)]) (fun m e H=>∃(i:Nat) (l:List IvM) (s2:List A8),m=o.length -i/\((i<=o.length/\l.length=o.length)/\l.map NK=o1.map NK/\kW l i/\BZ 4 282 (.slice pw o.length cw) l.length (CB l) s2)/\e=[(8,I4 (i:Int))]/\H=[s2]) (by exact ⟨0,o1,s1,V,⟨⟨zT _,hol⟩,V,fun j k x y _ h=>absurd h (AM8 k),hr1⟩,V,V⟩) Wp ?_;rintro _ _ _ ⟨i,l,s2,rfl,⟨⟨hil,hll⟩,hky,hrun,hr2⟩,rfl,rfl⟩;refine Zq<|Zg<|Zv (Au Y Y)<|Z0<|Zx<|Zq<|Aw Y (fun hlt=>?_) (fun hlt=>?_)
 ·
  refine AJ<|Zx<|Zq<|AO<|Zq<|Zg<|Zm Y<|Za Y<|Z0<|Zx<|Zq ?_;rcases hr2 with⟨hcl,⟨hv0,h0,rfl⟩|⟨g,cap,cur,z,hv0,rfl,hle,hcm,hcs,htk,hfr⟩⟩
  · omega
  injection hv0 with e1 e2 e3
  subst e1 e3;obtain ⟨x,hx⟩:∃x,l[i]?=some x:=⟨_,zD Ao7⟩;have hc1:=oM htk hx
  refine Zg<|Zm Y<|Zm Y<|Zm Y<|Zm Y<|Bq (Ai Ad3 Ad2 Y Y Ao7)<|Zv (Ar (off:=1) Ac5 rfl rfl AU1 Y)<|Zl AU2 Y (hv:=by exact (by rw [zo];exact hc1.1)) ?_;refine Bq (Ai Ad3 Ad2 Y Y Ao7)<|Zv (Ar (off:=2) Ac5 V rfl AU1 Y)<|Xe (Zs AU1 Y Y V (hi:=by omega) (hz:=by exact hfr)) ?_;refine Z0<|Zn [0,3,7,8] ?_;refine Zx<|Zq ?_;obtain ⟨c1,hc1e⟩:∃c1,c1=cur.setIfInBounds (0+i*4+2) (I4 x.hi):=⟨_,rfl⟩;rw [<-hc1e];have htk1:c1.toList.take (l.length*4)=CB (l.set i {x with rc:=x.hi}):=by rw [hc1e,zo];exact oL htk hx x.hi
  have hcs1:c1.size=cw*4:=by rw [hc1e,AC8];exact hcs
  have hfr1:IA z c1.size:=by rw [hcs1,<-hcs];exact hfr
  have hx1:(l.set i {x with rc:=x.hi})[i]?=some {x with rc:=x.hi}:=by rw [AG1,Am7 rfl,Am7 Ao7]
  have hc2:=oM htk1 hx1;refine Zg<|Zm Y<|Zv (Df (n:=0) Y Y)<|Z0<|Zx<|Aw Y (fun h30=>?_) (fun h30=>?_)
  ·
   obtain ⟨y,hy⟩:∃y,l[i -1]?=some y:=⟨_,zD Ao7⟩;have hy1:(l.set i {x with rc:=x.hi})[i -1]?=some y:=by rw [AG1,Am6 Ao7];exact hy
   have hc3:=oM htk1 hy1;refine Az (n:=17) (0::0::0::0::12::28::60::0::0::256::896::1920::3968::8188::16383::32767::65535::[]) 65536 Ao8 Ao8 rfl<|An9 0 rfl (AP Y)<|An9 1 rfl (AP Y)<|An9 2 rfl (AP Y)<|An9 3 rfl (AP Y)<|An9 4 rfl (Ai Ad3 Ad2 Y Y Ao7)<|An9 5 rfl (Ar (off:=2) Ac5 rfl rfl AU1 Y)<|Ao0 6 rfl AU2 Y (hv:=by exact (by rw [zo];exact hc2.2)) ?_;refine An9 7 V (AP Y)<|An9 8 V (AP Y) ?_
   (refine Ev (D':=1023) 9 (CS (n:=1) Y Y ?_ ?_) ?_;(focus (omega));(focus (omega)))
   refine An9 10 rfl (Ai Ad3 Ad2 Y Y Ao7)<|An9 11 rfl (Ar (off:=2) Ac5 rfl rfl AU1 Y)<|Ao0 12 rfl AU2 Y (hv:=by exact (by rw [zo];exact hc3.2)) ?_;refine An9 13 V (PV Y Y)<|An9 14 V (Ai Ad3 Ad2 Y Y Ao7)<|An9 15 V (Ar (off:=2) Ac5 V rfl AU1 Y)<|Zz (l:=[16])<|Ao5 [false,false] [] V rfl (Zs AU1 Y Y V (hi:=by omega) (hz:=by exact hfr1)) ?hk_2 (fun _ _ h=>h.elim) ?hl_2
   case hk_2=>
    rintro _ _ ⟨rfl,rfl⟩;refine ⟨AV,?_⟩;refine Ag<|Zn [0,7,8] ?_;refine A9<|Zx<|Zg<|Ya (n:=1) Y Y<|Zm Y<|Z0<|Zn [8,0,7] ?_;refine Ad (e':=[(8,_)]) (by exact ⟨i+1,(l.set i {x with rc:=x.hi}).set i {x with rc:=max x.hi y.rc},[(g,.cells (c1.setIfInBounds (0+i*4+2) (I4 (max x.hi y.rc))) 282 z)],rfl,⟨⟨by omega,by simp;omega⟩,by rw [SL hx1,SL hx];exact hky,by rw [List.set_set];exact UE hrun hx Ao7 (fun y2 _ hy2=>by rw [hy]at hy2;injection hy2 with hy2;rw [<-hy2];omega),eH Ap8 (by rw [zo,e2];exact oL htk1 hx1 _) Ao7 hcm (by rw [AC8];exact hcs1) (by rw [AC8];exact hfr1)⟩,rfl,rfl⟩)
   exact Ae
  refine AJ<|A9<|Zx<|Zg<|Ya (n:=1) Y Y<|Zm Y<|Z0<|Zn [8,0,7] ?_;refine Ad (e':=[(8,_)]) (by exact ⟨i+1,l.set i {x with rc:=x.hi},[(g,.cells c1 282 z)],rfl,⟨⟨by omega,by simp;omega⟩,by rw [SL hx];exact hky,UE hrun hx Ao7 (fun y2 h0=>absurd h0 Ao7),eH Ap8 (by rw [e2];exact htk1) Ao7 hcm hcs1 hfr1⟩,rfl,rfl⟩)
 obtain rfl:i=o.length:=by omega
 refine BG<|Zt<|Zt<|AX<|Zx<|Zq<|Zg<|Zm Y<|Za Y<|Z0<|Zx<|AC<|AL V results183 Y (by exact ⟨V,s2,l,o1,hpm,hso,hky,hll▸hrun,hr2,V⟩)
theorem qP(v:Int):∀{l:List IvM},(l.Pairwise fun a b=>a.lo<=b.lo)->l.takeWhile (fun x=>decide (x.lo<=v))=l.filter fun x=>decide (x.lo<=v)
 |[],_=>rfl
 |a::l,h=>by
  obtain ⟨h1,h2⟩:=AE5.1 h;by_cases ha:a.lo<=v
  · rw [AS0 (by simpa using ha),List.filter_cons_of_pos (by simpa using ha),qP v h2]
  · rw [AS1 (by simpa using ha),AM1 (by simpa using ha)]
    exact (AM7.2 fun b hb=>by have:=h1 b hb;simp;omega).symm
theorem U7(v:Int):∀{q:List IvM},(q.Pairwise fun a b=>b.hi<=a.rc)->(∀a∈q,a.hi<=a.rc)->(q.takeWhile fun x=>decide (v<=x.rc)).filter (fun x=>decide (v<=x.hi))=q.filter fun x=>decide (v<=x.hi)
 |[],_,_=>rfl
 |a::q,h,hs=>by
  obtain ⟨h1,h2⟩:=AE5.1 h;by_cases ha:v<=a.rc
  · rw [AS0 (by simpa using ha),AM3,AM3,U7 v h2 fun b hb=>hs b (zW _ hb)]
  · rw [AS1 (by simpa using ha)]
    refine (AM7.2 fun b hb=>?_).symm;rcases za.1 hb with rfl|hb
    · have:=hs b Ap0;simp;omega
    · have:=h1 b hb;simp;omega
theorem kE{v:Int}(hs:l.Pairwise fun a b=>a.lo<=b.lo)(hr:kW l l.length)(i:Int):i∈IP v l↔∃x∈l,x.lo<=v/\v<=x.hi/\x.id=i:=by
 have hp:l.Pairwise fun a b=>a.hi<=b.rc:=AJ8.2 fun j k hj hk hjk=>hr j k _ _ Ao7 hk (zD hj) (zD hk);have hd:∀a∈l,a.hi<=a.rc:=fun a ha=>by
  obtain ⟨j,hj,rfl⟩:=List.mem_iff_getElem.1 ha;exact hr j j _ _ (zh _) hj (zD hj) (zD hj)
 unfold IP;rw [qP v hs,U7 v (List.pairwise_reverse.2 (hp.sublist AF5)) fun a ha=>hd a (AA2.1 (AM4.1 ha)).1];simp only [zQ,AA2,AM4,Am9];constructor
 · rintro ⟨x,⟨⟨hx,h1⟩,h2⟩,rfl⟩;exact ⟨x,hx,h1,h2,rfl⟩
 · rintro ⟨x,hx,h1,h2,rfl⟩;exact ⟨x,⟨⟨hx,h1⟩,h2⟩,rfl⟩
variable{o:List IvM}
theorem Xv(hk:l.map NK=o.map NK){a b i:Int}:(∃x∈l,x.lo=a/\x.hi=b/\x.id=i)↔∃x∈o,x.lo=a/\x.hi=b/\x.id=i:=by
 have h:∀{l:List IvM},(∃x∈l,x.lo=a/\x.hi=b/\x.id=i)↔(a,b,i)∈l.map NK:=fun{l}=>by
  simp only [zQ,NK,AQ4]
 rw [h,h,hk]
theorem Xx(hk:l.map NK=o.map NK)(ho:o.Pairwise fun a b=>a.lo<=b.lo):l.Pairwise fun a b=>a.lo<=b.lo:=by
 have h:∀{l:List IvM},(l.Pairwise fun a b=>a.lo<=b.lo)↔(l.map NK).Pairwise fun a b=>a.1<=b.1:=fun{l}=>by
  rw [AH8];rfl
 rw [h,hk];exact h.1 ho
def QS(x:Int×QM):IvM:=⟨x.2.lo,x.2.hi,0,x.1⟩
def plQ(x:Int×QM):Int×Int:=(x.2.tb,x.2.cl)
def EJ(vs:List (Int×QM))(k:Int×Int):List IvM:=(vs.filter fun x=>decide (plQ x=k)).map QS
def F7(vs:List (Int×QM))(t:Int):List Int:=(vs.filter fun x=>decide (x.2.kd=7/\x.2.ot=t)).map (·.1)
theorem SQ(vs:List (Int×QM))(x:Int×QM)(k:Int×Int):EJ (vs++[x]) k=if k=plQ x then EJ vs (plQ x)++[QS x]else EJ vs k:=by
 unfold EJ;rw [AB3,zK];by_cases h:k=plQ x
 · subst h;simp
 · rw [Am6 h,AM1 (by simpa using fun e=>h e.symm)];simp
theorem NL(vs:List (Int×QM))(x:Int×QM)(t:Int):F7 (vs++[x]) t=if x.2.kd=7/\t=x.2.ot then F7 vs x.2.ot++[x.1]else F7 vs t:=by
 unfold F7;rw [AB3,zK];by_cases h:x.2.kd=7/\t=x.2.ot
 · obtain ⟨h1,rfl⟩:=h;simp [h1]
 · rw [Am6 h,AM1 (by simpa using fun e1 e2=>h ⟨e1,e2.symm⟩)];simp
theorem Y7(a b:List IvM):CB (a++b)=CB a++CB b:=by unfold CB;rw [AE2]
abbrev qm(vs:List (Int×QM))(lm:List ((Int×Int)×Value))(M:List A8):Prop:=TR 4 282 lm (fun k=>(EJ vs k).length) (fun k=>CB (EJ vs k)) M
abbrev ZB(vs:List (Int×QM))(lm:List (Int×Value))(M:List A8):Prop:=TR 1 3 lm (fun t=>(F7 vs t).length) (fun t=>(F7 vs t).map fun i=>Value.int .i64 i) M
variable{vs:List (Int×QM)}{M:List A8}
theorem jk{lm:List ((Int×Int)×Value)}(hk:(lm.map (·.1)).Nodup)(h:qm vs lm M)(x:Int×QM):
 ∃s M',BZ 4 282 ((Dm (plQ x) lm).getD (.slice none 0 0)) (EJ vs (plQ x)).length (CB (EJ vs (plQ x))) s/\M.Perm (s++M')/\∀(v':Value) (s':List A8) (lm':List ((Int×Int)×Value)),(lm'.map (·.1)).Nodup->(∀p,p∈lm'↔p=(plQ x,v')\/(p∈lm/\p.1≠plQ x))->
  BZ 4 282 v' (EJ vs (plQ x)++[QS x]).length (CB (EJ vs (plQ x)++[QS x])) s'->qm (vs++[x]) lm' (s'++M'):=by
 obtain ⟨s,M',h1,h2,h3⟩:=Ph hk h (plQ x);refine ⟨s,M',h1,h2,fun v' s' lm' hk' hp hr=>?_⟩;have h4:=h3 v' s' _ _ lm' hk' hp hr
 have e1:(fun k=>(EJ (vs++[x]) k).length)=fun k=>if k=plQ x then(EJ vs (plQ x)++[QS x]).length else(EJ vs k).length:=funext fun k=>by
  rw [SQ];split<;>rfl
 have e2:(fun k=>CB (EJ (vs++[x]) k))=fun k=>if k=plQ x then CB (EJ vs (plQ x)++[QS x])else CB (EJ vs k):=funext fun k=>by
  rw [SQ];split<;>rfl
 unfold qm;rw [e1,e2];exact h4
variable{lm:List (Int×Value)}
theorem jh(hk:(lm.map (·.1)).Nodup)(h:ZB vs lm M)(x:Int×QM)(h7:x.2.kd=7):
 ∃s M',BZ 1 3 ((Dm x.2.ot lm).getD (.slice none 0 0)) (F7 vs x.2.ot).length ((F7 vs x.2.ot).map fun i=>Value.int .i64 i) s/\M.Perm (s++M')/\∀(v':Value) (s':List A8) (lm':List (Int×Value)),(lm'.map (·.1)).Nodup->(∀p,p∈lm'↔p=(x.2.ot,v')\/(p∈lm/\p.1≠x.2.ot))->
  BZ 1 3 v' (F7 vs x.2.ot++[x.1]).length ((F7 vs x.2.ot++[x.1]).map fun i=>Value.int .i64 i) s'->ZB (vs++[x]) lm' (s'++M'):=by
 obtain ⟨s,M',h1,h2,h3⟩:=Ph hk h x.2.ot;refine ⟨s,M',h1,h2,fun v' s' lm' hk' hp hr=>?_⟩;have h4:=h3 v' s' _ _ lm' hk' hp hr
 have e1:(fun k=>(F7 (vs++[x]) k).length)=fun k=>if k=x.2.ot then(F7 vs x.2.ot++[x.1]).length else(F7 vs k).length:=funext fun k=>by
  rw [NL];simp only [h7,An7];split<;>rfl
 have e2:(fun k=>(F7 (vs++[x]) k).map fun i=>Value.int .i64 i)=fun k=>if k=x.2.ot then(F7 vs x.2.ot++[x.1]).map fun i=>Value.int .i64 i else(F7 vs k).map fun i=>Value.int .i64 i:=funext fun k=>by
  rw [NL];simp only [h7,An7];split<;>rfl
 unfold ZB;rw [e1,e2];exact h4
theorem ji(h:ZB vs lm M)(x:Int×QM)(h7:x.2.kd≠7):ZB (vs++[x]) lm M:=by
 have e:F7 (vs++[x])=F7 vs:=funext fun t=>by rw [NL,Am6 (fun h=>h7 h.1)]
 unfold ZB;rw [e];exact h
theorem gU(q:QM)(hq:BH q):BR Tryz.prog 178 #[.agg #[I4 q.kd,I4 q.tb,I4 q.cl,I4 q.lo,I4 q.hi,I4 q.bq,I4 q.ot]] [] (fun r H'=>r= .tuple #[I4 q.tb,I4 q.cl,I4 q.lo,I4 q.hi]/\H'=[]):=by
 refine Se func178 ntmps178 [0] ?_;intro u R;refine Zq<|Zg<|Ze (Bx #[_,_,_,_,_,_,_]) ?_;rintro _ _ ⟨bx,rfl,rfl⟩;refine Za Y<|Za Y<|Za Y<|Za Y<|Z0<|Zx<|Zq<|Zq<|Zg<|Zo Wh (AA (cs:=#[I4 q.kd,I4 q.tb,I4 q.cl,I4 q.lo,I4 q.hi,I4 q.bq,I4 q.ot]) AX9 AV8 Y Wn (by exact BD V)) ?_;refine Xr [_] Y call34 Y V (JJ q) ?_;refine Zv (Eg Y)<|Z0<|Zx<|AR Y (fun hb1=>?_) (fun hb1=>?_)
 ·
  exfalso;simp [hq]at hb1
 refine AJ<|Zx<|Zq<|Az (n:=12) (0::1::0::4::0::16::0::64::3::271::831::2047::[]) 0 Ao8 Ao8 V<|An9 0 V (AB (off:=1) AU9 V rfl AU1 Y)<|Ao0 1 V AU2 Y ?_;refine An9 2 V (AB (off:=2) AU9 V rfl AU1 Y)<|Ao0 3 V AU2 Y ?_;refine An9 4 V (AB (off:=3) AU9 V rfl AU1 Y)<|Ao0 5 V AU2 Y ?_;refine An9 6 V (AB (off:=4) AU9 V rfl AU1 Y)<|Ao0 7 V AU2 Y ?_;refine An9 8 V (Aq Y)<|An9 9 V (Aq Y)<|An9 10 V (Aq Y)<|An9 11 V (Aq Y)<|Ag<|Zn [2,3,4,5] ?_;refine Zx<|AC<|eY V results178 Y Y Y Y (by exact ⟨V,V⟩)
def Z9(lm:List (Int×Value))(js:List Nat)(vs:List (Int×QM)):Prop:=vs.length=js.length/\∀x,x∈vs↔∃j∈js,lm[j]?=some (x.1,(.agg #[I4 x.2.kd,I4 x.2.tb,I4 x.2.cl,I4 x.2.lo,I4 x.2.hi,I4 x.2.bq,I4 x.2.ot]:Value))
variable{js:List Nat}{j:Nat}
theorem aD(h:Z9 lm js vs){x:Int×QM}(hj:lm[j]?=some (x.1,(.agg #[I4 x.2.kd,I4 x.2.tb,I4 x.2.cl,I4 x.2.lo,I4 x.2.hi,I4 x.2.bq,I4 x.2.ot]:Value))):Z9 lm (js++[j]) (vs++[x]):=by
 refine ⟨by rw [zG,zG,h.1];rfl,fun y=>?_⟩;rw [zJ,h.2];constructor
 · rintro (⟨i,hi,hy⟩|hy)
   · exact ⟨i,zR _ hi,hy⟩
   · rw [zI.1 hy];exact ⟨j,by simp,hj⟩
 · rintro ⟨i,hi,hy⟩
   rcases zJ.1 hi with hi|hi
   · exact .inl ⟨i,hi,hy⟩
   · rw [zI.1 hi,hj]at hy
     injection hy with hy
     refine .inr (zI.2 ?_);obtain ⟨a,q⟩:=x;obtain ⟨b,r⟩:=y;obtain ⟨q1,q2,q3,q4,q5,q6,q7⟩:=q;obtain ⟨r1,r2,r3,r4,r5,r6,r7⟩:=r;simp at hy;simp [hy]
theorem SS(vs:List (Int×QM))(k:Int×Int):(EJ vs k).length<=vs.length:=by unfold EJ;rw [zH];exact AD3 _ _
def QL(o l:List IvM):Prop:=∃o':List IvM,o'.Perm o/\(o'.Pairwise fun a b=>a.lo<=b.lo)/\l.map NK=o'.map NK/\kW l l.length
variable{lmA:List ((Int×Int)×Value)}{pn:(Int×Int)×Value}
theorem j4(hk:(lmA.map (·.1)).Nodup)(hpn:lmA[j]?=some pn)(p:(Int×Int)×Value):p∈lmA↔p=(pn.1,pn.2)\/(p∈lmA/\p.1≠pn.1):=by
 constructor
 · intro hp
   by_cases h:p.1=pn.1
   · obtain ⟨i,hi⟩:=AA1 hp
     obtain rfl:=KX hk hi hpn h;rw [hpn]at hi;injection hi with hi;exact .inl hi.symm
   · exact .inr ⟨hp,h⟩
 · rintro (rfl|⟨h,_⟩)
   · exact zP hpn
   · exact h
variable{ks:List Nat}
theorem aC{lmS lm5:List ((Int×Int)×Value)}(hk:(lmA.map (·.1)).Nodup)(hpn:lmA[j]?=some pn)(hjn:¬j∈ks)(hS:∀p,p∈lmS↔∃k∈ks,lmA[k]?=some p)(h5:∀p,p∈lm5↔p=(pn.1,pn.2)\/(p∈lmS/\p.1≠pn.1))(p:(Int×Int)×Value):p∈lm5↔∃k∈ks++[j],lmA[k]?=some p:=by
 rw [h5,hS];constructor
 · rintro (rfl|⟨⟨k,hk,hp⟩,hne⟩)
   · exact ⟨j,by simp,hpn⟩
   · exact ⟨k,zR _ hk,hp⟩
 · rintro ⟨k,hk',hp⟩
   rcases zJ.1 hk' with hk1|hk1
   · refine .inr ⟨⟨k,hk1,hp⟩,fun he=>hjn ?_⟩
     obtain rfl:=KX hk hp hpn he;exact hk1
   · rw [zI.1 hk1,hpn]at hp;injection hp with hp;exact .inl hp.symm
variable{g:Int×Int->List IvM}
theorem dD(hk:(lmA.map (·.1)).Nodup)(hpn:lmA[j]?=some pn)(hjn:¬j∈ks){f:Int×Int->List IvM}{l2:List IvM}(hd:∀i p,lmA[i]?=some p->if i∈ks then QL (f p.1) (g p.1)else g p.1=f p.1)(h2:QL (g pn.1) l2):
 ∀i p,lmA[i]?=some p->if i∈ks++[j]then QL (f p.1) ((fun k=>if k=pn.1 then l2 else g k) p.1)else(fun k=>if k=pn.1 then l2 else g k) p.1=f p.1:=by
 intro i p hi;have h:=hd i p hi
 by_cases hij:i=j
 · subst hij
   rw [hpn]at hi;injection hi with hi;subst hi
   rw [Am6 hjn]at h;rw [Am7 Ap0];simp only [An4];rw [<-h];exact h2
 · have hne:p.1≠pn.1:=fun he=>hij (KX hk hi hpn he)
   simp only [Am6 hne,zJ,zI,hij,An6];exact h
theorem uQ{lm:List ((Int×Int)×Value)}{l2:List IvM}{k0:Int×Int}(h:TR 4 282 lm (fun x=>if x=k0 then l2.length else(g x).length) (fun x=>if x=k0 then CB l2 else CB (g x)) M):TR 4 282 lm (fun k=>((fun k=>if k=k0 then l2 else g k) k).length) (fun k=>CB ((fun k=>if k=k0 then l2 else g k) k)) M:=by
 have e1:(fun k=>((fun k=>if k=k0 then l2 else g k) k).length)=fun x=>if x=k0 then l2.length else(g x).length:=funext fun k=>by
  show(if k=k0 then l2 else g k).length=_;split<;>rfl
 have e2:(fun k=>CB ((fun k=>if k=k0 then l2 else g k) k))=fun x=>if x=k0 then CB l2 else CB (g x):=funext fun k=>by
  show CB (if k=k0 then l2 else g k)=_;split<;>rfl
 rw [e1,e2];exact h
theorem YE(vs:List (Int×QM))(t:Int):(F7 vs t).length<=vs.length:=by unfold F7;rw [zH];exact AD3 _ _
def IB(c:Chg)(i:Nat):List AQ:=(if 1<=i/\c.had=true then [⟨c.t,c.k,c.o⟩]else [])++(if 2<=i/\c.has=true then [⟨c.t,c.k,c.n⟩]else [])
def F3(c:Chg):List AQ:=IB c 2
theorem lc(c:Chg)(i:Nat)(h:i<2):∃(fi:Nat) (rv:AQ) (vb:Bool),(#[.func (.func 141) #[] #[],.func (.func 142) #[] #[]]:Array Value)[i]?=some (.func (.func fi) #[] #[])/\(∀(args:Array Value) (w:World),(callFunc fi args).run Tryz.prog w= .ok (.enter fi args) w)/\
 BJ Tryz.prog fi #[.agg #[I4 c.t,I4 c.k,.bool c.had,I4 c.o.a,I4 c.o.b,I4 c.o.c,.bool c.has,I4 c.n.a,I4 c.n.b,I4 c.n.c]] [] (.tuple #[.agg #[I4 rv.t,I4 rv.k,I4 rv.v.a,I4 rv.v.b,I4 rv.v.c],.bool vb])/\(vb=true->IB c (i+1)=IB c i++[rv]/\∃post,F3 c=IB c i++rv::post)/\(vb=false->IB c (i+1)=IB c i):=by
 rcases (by omega:i=0\/i=1)with rfl|rfl
 · refine ⟨_,_,c.had,rfl,call141,UD c,fun hv=>?_,fun hv=>?_⟩
   · unfold F3 IB Dt;simp [hv]
   · unfold IB;simp [hv]
 · refine ⟨_,_,c.has,rfl,call142,O0 c,fun hv=>?_,fun hv=>?_⟩
   · unfold F3 IB Dt;simp [hv]
   · unfold IB;simp [hv]
theorem dH(c:Chg):BR Tryz.prog 185 #[.agg #[I4 c.t,I4 c.k,.bool c.had,I4 c.o.a,I4 c.o.b,I4 c.o.c,.bool c.has,I4 c.n.a,I4 c.n.b,I4 c.n.c]] [] (fun r H'=>∃b,r= .func (.func 242) #[] #[I5 b]/\H'=[[(b,.cells #[I4 c.t,I4 c.k,.bool c.had,I4 c.o.a,I4 c.o.b,I4 c.o.c,.bool c.has,I4 c.n.a,I4 c.n.b,I4 c.n.c] 69 (0,0))]]):=by
 refine Se func185 ntmps185 [0] ?_;intro u R;refine Zq<|Zg<|Ze (EX Y (cs:=#[I4 c.t,I4 c.k,.bool c.had,I4 c.o.a,I4 c.o.b,I4 c.o.c,.bool c.has,I4 c.n.a,I4 c.n.b,I4 c.n.c]) Ao8) ?_;rintro _ _ ⟨b,rfl,rfl⟩;refine Za Y<|Z0<|Zx<|Zq<|Zg<|Zv (Bb (vs:=[]) (us:=[_]) Y Y)<|Za Y<|Z0<|Zx<|AC<|AL V results185 Y (by exact ⟨_,V,V⟩)
theorem dI(c:Chg)(b:Nat):Ep Tryz.prog 242 #[I5 b] [[(b,.cells #[I4 c.t,I4 c.k,.bool c.had,I4 c.o.a,I4 c.o.b,I4 c.o.c,.bool c.has,I4 c.n.a,I4 c.n.b,I4 c.n.c] 69 (0,0))]] (fun _=>True) (fun x:AQ=>#[.agg #[I4 x.t,I4 x.k,I4 x.v.a,I4 x.v.b,I4 x.v.c]]) (F3 c):=by
 intro l J hA hy s hJ;refine Se func242 ntmps242 [0,1] ?_;intro u R;refine Zq<|Zg<|Ze (Af (vs:=[_,_]) (cs:=[_,_]) underlying340 sizeOf171 zeroValue171 Y V rfl V rfl V) ?_;rintro _ _ ⟨bf,rfl,rfl⟩;refine Zv (Aa underlying340 Y)<|Zm Y<|Z0<|Zx<|AO<|Zb [9,0,1,7,8] ?_;refine BI (e0:=[(9,_)]) (fun m e H=>∃(i:Nat) (s:List A8),m=2 -i/\(i<=2/\J (IB c i) s)/\e=[(9,I4 (i:Int))]/\H=[s]) (by exact ⟨0,s,V,⟨by decide,hJ⟩,V,V⟩) Wp ?_;rintro _ _ _ ⟨i,s,rfl,⟨hi,hJ⟩,rfl,rfl⟩;refine Zq<|Zg<|Zv (Au Y Y)<|Z0<|Zx<|Zq<|Aw Y (fun hlt=>?_) (fun hlt=>?_)
 ·
  obtain ⟨fi,rv,vb,hca,hcf,hsp,hst1,hst2⟩:=lc c i Ao7;refine AJ<|Zx<|Zq<|AO<|Zq<|Zg<|Bq (Ba underlying340 sizeOf171 Y Y Ao7)<|Zl isAgg171 Y (hv:=by exact hca) ?_;refine Za Y<|Z0<|Zx<|Zq<|Zg<|Zm Y<|Zo Wh (Pa #[_,_,_,_,_,_,_,_,_,_] Aa3 AW4 Y) ?_;refine Xr [_] Y (hcf) Y V (hsp) ?_;refine Zm Y<|Zd Y V<|Zd Y V<|Ze (Al AW7 #[_,_,_,_,_]) ?_;rintro _ _ ⟨br,rfl,rfl⟩;refine Xe (Xw AU5 _) ?_;refine Za Y<|Z0<|Zn [0,1,5,6,7,8,9] ?_;refine Zx<|Zq<|Zg<|Zm Y<|Zm Y<|Aj (t:=20) Y V (fun hvb=>?_) (fun hvb=>?_)
  ·
   obtain ⟨hu,post,hpost⟩:=hst1 hvb;have hyk:=hy _ _ _ s hpost hJ
   refine Zf Y Y<|FJ Y Wh (Pa #[_,_,_,_,_] AX3 AU5 Y) V rfl ?_;refine Ze (Fz (vs:=[_]) Y Y (hyk) Wp) ?_;rintro _ _ ⟨_,⟨s',rfl,rfl,hJ'⟩,rfl⟩;refine Yg (Br Y)<|Zv (AZ Y Y)<|Z0<|Zx<|AR Y (fun hb=>?_) (fun hb=>?_)
   ·
    cases hb
   refine AJ<|A9<|Zx<|Zg<|Ya (n:=1) Y Y<|Zm Y<|Z0<|Zn [9,0,1,7,8] ?_;refine Ad (e':=[(9,_)]) (by exact ⟨i+1,s',rfl,⟨by omega,by rw [hu];exact hJ'⟩,rfl,rfl⟩)
  have hu:=hst2 hvb;refine A7 Y V<|A7 Y V<|A7 Y V<|A7 Y V<|Zv (AU Y Y)<|Z0<|Zx<|Dv Y<|AJ<|A9<|Zx<|Zg<|Ya (n:=1) Y Y<|Zm Y<|Z0<|Zn [9,0,1,7,8] ?_;refine Ad (e':=[(9,_)]) (by exact ⟨i+1,s,rfl,⟨by omega,by rw [hu];exact hJ⟩,rfl,rfl⟩)
 obtain rfl:i=2:=by omega
 refine BG<|Zt<|Zt<|AX<|Cj V results242 (by exact ⟨s,V,hJ⟩)
theorem Ri:FU Tryz.prog 279 K2 KD:=FU.ofLaw (deep_law (m:=3) (by decide) (by kernel_rfl) (by kernel_rfl) (by kernel_rfl)) (by
 rintro ⟨a,b⟩ ⟨ha,hb⟩;have h1:Tryz.prog.types.size+1=(Tryz.prog.types.size -1)+1+1:=by
  have:0<Tryz.prog.types.size:=An1 Ao8;omega
 have hc:Tryz.prog.cellsOf 3=1:=by kernel_rfl
 have hc2:Tryz.prog.cellsOf 279=2:=by kernel_rfl
 have hk:Tryz.prog.keyType 279=true:=by kernel_rfl
 have hf:(K2 (a,b)).formed Tryz.prog 279=true:=by
  unfold Value.formed K2;rw [Ah8];simp [hc2]
 unfold keyOf;rw [Ah8];simp only [hk,hf,Bool.and_self,An4];obtain ⟨d,hd⟩:∃d,Tryz.prog.types.size+1=d+1+1:=⟨_,h1⟩;rw [hd];unfold Program.keyLits;rw [Ah8];have la:=OO Tryz.prog d a AV3 ha
 have lb:=OO Tryz.prog d b AV3 hb;simp [K2,Value.cells,hc,hc2,la,lb]) qg
def qh(M:List A8)(v:Value)(l:List Int):Prop:=∃p cap,v= .slice p l.length cap/\(l.length<=maxLen/\l.length<=cap)/\∀(i:Nat) (x:Int),l[i]?=some x->∃g off cur T zz,p=some ⟨g,off,none⟩/\(g,Obj.cells cur T zz)∈M/\cur[off+i]?=some (I4 x)
variable{v:Value}
theorem qh.mono{M':List A8}{l:List Int}(h:qh M v l)(hm:∀c∈M,c∈M'):qh M' v l:=by
 obtain ⟨p,cap,e,hl,hg⟩:=h;refine ⟨p,cap,e,hl,fun i x hx=>?_⟩;obtain ⟨g,off,cur,T,zz,h1,h2,h3⟩:=hg i x hx;exact ⟨g,off,cur,T,zz,h1,hm _ h2,h3⟩
structure Oi(sc:Int->Int->List IvM)(jn:Int->List Int)(lp:Nat)(ML:List A8):Prop where
 ex:∃ms ess cks lms mj esj ckj lmj,(lp,Obj.cells #[.map (some ms),.map (some mj)] 277 (0,0))∈ML/\(ms,Obj.map ess cks)∈ML/\Ce K2 ess cks lms/\(∀p∈lms,KD p.1)/\(mj,Obj.map esj ckj)∈ML/\Ce (fun n:Int=>Value.int .i64 n) esj ckj lmj/\
  (∀a b,TP ML ((Dm (a,b) lms).getD (.slice none 0 0)) (sc a b))/\(∀t,qh ML ((Dm t lmj).getD (.slice none 0 0)) (jn t))
 asc:∀a b,(sc a b).Pairwise fun x y=>x.lo<=y.lo
 len:∀a b,(sc a b).length<=1000000
def Hw(sc:Int->Int->List IvM)(t:Int)(r:AQ)(n:Nat):List Int:=(List.range n).flatMap fun col=>IP (DR r col) (sc t (col:Int))
def Mj(sc:Int->Int->List IvM)(jn:Int->List Int)(c:Chg):List Int:=((F3 c).flatMap fun r=>Hw sc c.t r 4)++jn c.t
theorem RH(sc:Int->Int->List IvM)(t:Int)(r:AQ)(n:Nat):Hw sc t r (n+1)=Hw sc t r n++IP (DR r n) (sc t (n:Int)):=by
 unfold Hw;rw [AO6,AE2];simp
theorem lW(sc:Int->Int->List IvM)(t:Int)(r:AQ)(h:n<4):∃post,Hw sc t r 4=Hw sc t r n++IP (DR r n) (sc t (n:Int))++post:=by
 rcases (by omega:n=0\/n=1\/n=2\/n=3)with rfl|rfl|rfl|rfl<;>simp only [RH,zM]<;>first|exact ⟨_,rfl⟩|(refine ⟨[],?_⟩;simp)
variable{sc:Int->Int->List IvM}{jn:Int->List Int}{c:Chg}
theorem bG{pre post:List AQ}{x:AQ}(h:F3 c=pre++x::post)(hn:n<4){pre2 post2:List Int}{id:Int}(h2:IP (DR x n) (sc c.t (n:Int))=pre2++id::post2):
 ∃post3,Mj sc jn c=((pre.flatMap fun r=>Hw sc c.t r 4)++Hw sc c.t x n++pre2)++id::post3:=by
 obtain ⟨p4,h4⟩:=lW sc c.t x hn;unfold Mj;rw [h,AE2,AB2,h4,h2];exact ⟨post2++p4++(post.flatMap fun r=>Hw sc c.t r 4)++jn c.t,by simp⟩
theorem WG(v:Value)(x:Int)(h1:v.oneCell'=true):BR Tryz.prog 186 #[v,I4 x] [] (fun r H'=>∃bl bv,r= .func (.func 243) #[] #[I5 bl,I5 bv]/\H'=[[(bl,.cells #[v] 283 (0,0))],[(bv,.cells #[I4 x] 3 (0,0))]]):=by
 refine Se func186 ntmps186 [0,1] ?_;intro u R;refine Zq<|Zg<|Ze (EX Y (cs:=#[v]) (by cases v<;>first|rfl|simp [Value.oneCell']at h1)) ?_;rintro _ _ ⟨bl,rfl,rfl⟩;refine Ze (Bx #[_]) ?_;rintro _ _ ⟨bv,rfl,rfl⟩;refine Za Y<|Z0<|Zx<|Zq<|Zg<|Zv (Bb (vs:=[]) (us:=[_,_]) Y Y)<|Za Y<|Z0<|Zx<|AC<|AL V results186 Y (by exact ⟨bl,bv,V,V⟩)
theorem iZ(lp:Nat)(c:Chg):BR Tryz.prog 112 #[I5 lp,.agg #[I4 c.t,I4 c.k,.bool c.had,I4 c.o.a,I4 c.o.b,I4 c.o.c,.bool c.has,I4 c.n.a,I4 c.n.b,I4 c.n.c]] [] (fun r H'=>∃bl bc,r= .func (.func 184) #[] #[I5 bc,I5 bl]/\H'=[[(bl,.cells #[I5 lp] 184 (0,0))],[(bc,.cells #[I4 c.t,I4 c.k,.bool c.had,I4 c.o.a,I4 c.o.b,I4 c.o.c,.bool c.has,I4 c.n.a,I4 c.n.b,I4 c.n.c] 69 (0,0))]]):=by
 refine Se func112 ntmps112 [0,1] ?_;intro u R;refine Zq<|Zg<|Ze (Bx #[_]) ?_;rintro _ _ ⟨bl,rfl,rfl⟩;refine Ze (EX Y (cs:=#[I4 c.t,I4 c.k,.bool c.had,I4 c.o.a,I4 c.o.b,I4 c.o.c,.bool c.has,I4 c.n.a,I4 c.n.b,I4 c.n.c]) Ao8) ?_;rintro _ _ ⟨bc,rfl,rfl⟩;refine Za Y<|Z0<|Zx<|Zq<|Zg<|Zv (Bb (vs:=[]) (us:=[_,_]) Y Y)<|Za Y<|Z0<|Zx<|AC<|AL V results112 Y (by exact ⟨bl,bc,V,V⟩)
variable{lp:Nat}{ML:List A8}
theorem ig(hL:Oi sc jn lp ML)(c:Chg)(hcb:∀r∈F3 c,∀n:Nat,n<4->-1000000000000<=DR r n/\DR r n<=1000000000000)(hct:-9223372036854775808<=c.t/\c.t<=9223372036854775807)(hjl:(jn c.t).length<=1000000)(bc bl:Nat):Ep Tryz.prog 184 #[I5 bc,I5 bl] [[(bc,.cells #[I4 c.t,I4 c.k,.bool c.had,I4 c.o.a,I4 c.o.b,I4 c.o.c,.bool c.has,I4 c.n.a,I4 c.n.b,I4 c.n.c] 69 (0,0))],[(bl,.cells #[I5 lp] 184 (0,0))]] (fun s=>∀x∈ML,x∈s) (fun i:Int=>#[I4 i]) (Mj sc jn c):=by
 have hml:=mL;obtain ⟨ms,ess,cks,lms,mj,esj,ckj,lmj,hlp,hms,hmps,hks,hmj,hmpj,hiv,hid⟩:=hL.ex;intro ly J hA hy s hJ;refine Cz func184 V ntmps184 V ?_;intro u R;refine Zb [0,1,2] ?_;refine Zq<|Zg<|Ze (Bx #[_]) ?_;rintro _ _ ⟨by_,rfl,rfl⟩;refine Z0<|Zx<|Zq<|Zq<|Zg<|Zo Wh (Pa #[_,_,_,_,_,_,_,_,_,_] Aa3 AW4 Y) ?_;refine Zc [_] Y call185 Y V (dH c) ?_;rintro _ _ ⟨_,⟨br,rfl,rfl⟩,rfl⟩;refine Z0<|Zx<|AO<|Zb [1,2,3,10] ?_;refine Og (H0:=_) (R:=_) (I:=(fun(pre:List AQ) H=>∃s,J (pre.flatMap fun r=>Hw sc c.t r 4) s/\H=[[(bc,.cells #[I4 c.t,I4 c.k,.bool c.had,I4 c.o.a,I4 c.o.b,I4 c.o.c,.bool c.has,I4 c.n.a,I4 c.n.b,I4 c.n.c] 69 (0,0))],[(bl,.cells #[I5 lp] 184 (0,0))],[(by_,.cells #[.func (.yield ly) #[] #[]] 112 (0,0))],s])) (E:=fun x e Hn=>∃bw,e=[(4,I5 bw),(11,.agg #[I4 x.t,I4 x.k,I4 x.v.a,I4 x.v.b,I4 x.v.c])]/\Hn=[[(bw,.cells #[I4 x.t,I4 x.k,I4 x.v.a,I4 x.v.b,I4 x.v.c] 83 (0,0))]]) V Y call242 (dI c br) (fun _ _ _ _ _=>trivial) Y V Wp (⟨s,hJ,V⟩) ?ha_2 ?hbd_2 ?hk_2
 case ha_2=>
  intro _ x _ _;refine Zg<|Ze (Al AW7 #[_,_,_,_,_]) ?_;rintro _ _ ⟨b2,rfl,rfl⟩;refine Xe (Xw AU5 _) ?_;refine Z0<|LQ (e:=[(4,_),(11,_)]) (Hn:=[[(_,_)]]) ?_;exact ⟨_,V,V⟩
 case hbd_2=>
  intro l pre x post u e9 Hn9 H1 R1 r9 hxs hI hE9;obtain ⟨bw,rfl,rfl⟩:=hE9;obtain ⟨s,hJ,rfl⟩:=hI;have hxs0:=hxs
  refine AO<|Zq<|Zg<|Zm Y<|Z0<|Zx<|AO<|Zb [12,1,2,3,4] ?_;refine BI (e0:=[(12,_)]) (fun m e H=>∃(n:Nat) (s:List A8),m=4 -n/\(n<=4/\J ((pre.flatMap fun r=>Hw sc c.t r 4)++Hw sc c.t x n) s)/\e=[(12,I4 (n:Int))]/\H=[s]) (by exact ⟨0,s,rfl,⟨by decide,by rw [show Hw sc c.t x 0=[] from rfl,zV];exact hJ⟩,rfl,rfl⟩) Wp ?_;rintro _ _ _ ⟨n,s,rfl,⟨hn4,hJ⟩,rfl,rfl⟩;refine Zq<|Zg<|Zv (Au (n:=4) Y Y)<|Z0<|Zx<|Zq<|Aw Y (fun hlt=>?_) (fun hlt=>?_)
  ·
   have hs9:=hA _ s hJ;have hlp9:=hs9 _ hlp
   have hms9:=hs9 _ hms;obtain ⟨pv,cv,hpv,_,_⟩:=hiv c.t (n:Int);have hxm:x∈F3 c:=by rw [hxs];simp
   have hvb:=hcb x hxm n Ao7;have hkd:KD (c.t,(n:Int)):=⟨U3 hct,U3 Ao7⟩
   have hlt0:n<4:=by omega
   refine AJ<|Zx<|Zq<|AO<|Zq<|Zg<|Zm Y<|Za Y<|Z0<|Zx<|Zq<|Az (n:=13) (0::1::3::7::0::16::0::112::255::0::0::1536::4095::[]) 6144 Ao8 Ao8 V<|Ao0 0 V isAgg184 Y ?_;refine An9 1 V (Am Y V)<|An9 2 V (AB (off:=0) Ag0 V rfl sizeOf274 Y)<|Cw (D':=15) 3 V rfl V (F6 Wo (hlp9)) (BX isAgg274 Y Ap1) ?_;refine An9 4 V (AB (off:=0) AV4 V rfl AU1 Y)<|Ao0 5 V AU2 Y ?_;refine An9 6 V (AP Y)<|An9 7 V (BL (vs:=[(0,_),(1,_)]) (cs:=#[_,_]) Y (AY (pl:=#[(0,1),(1,1)]) Al4 Ah8 (fun _=>by kernel_rfl) V))<|Cw (D':=511) 8 V rfl V (F6 Wo (hms9)) (DK Ri underlying274 zeroValue283 hmps hks (hkd) (hpv) Y Y) ?_;refine Ao4 9 V Wh (AA (cs:=#[_,_,_,_,_]) AX3 AU5 Y (by(simp;done)) Ap1) ?_;refine An9 10 V (AP Y)<|Zz (l:=[11])<|Ao5 [false,true,true,true,true] [(8,(_,_)),(5,(_,_)),(3,(_,_)),(0,(_,_))] V rfl (Zu [_,_] Y Ah3 Y V (Nz x n Ao7)) ?hk_4 (fun _ _ h=>h.elim) ?hl_4
   case hk_4=>
    rintro _ _ ⟨rfl,rfl⟩;refine ⟨Ez (by simp [*]) (Zk (Ez (by simp [*]) (Zk (AV)))),?_⟩;refine Zz (l:=[12])<|Ao5 [false,false,false,false] [] V rfl (Zw [_,_] Y call186 Y V (WG (.slice pv (sc c.t (n:Int)).length cv) (DR x n) V)) ?hk_5 Bp ?hl_5
    case hk_5=>
     rintro _ _ ⟨_,⟨bl2,bv2,rfl,rfl⟩,rfl⟩;refine ⟨AV,?_⟩;refine Ag<|Zn [1,2,3,4,12,27] ?_;refine Zx<|AO<|Zb [1,2,3,4,12,27] ?_;refine dW (H0:=_) (R:=_) (I:=(fun(pre2:List Int) H=>∃s,J ((pre.flatMap fun r=>Hw sc c.t r 4)++Hw sc c.t x n++pre2) s/\H=[[(by_,.cells #[.func (.yield ly) #[] #[]] 112 (0,0))],s])) (E:=fun x e Hn=>e=[(6,I4 x),(28,I4 x)]/\Hn=[]) rfl Wh Y call243 (WH (hpv▸hiv c.t (n:Int)) (hL.len _ _) (hL.asc _ _) (DR x n) hvb bl2 bv2) (by rintro pre2 _ c9 ⟨s,h1,rfl⟩;intro q hq;have:=hA _ s h1 q hq;simp [this]) Y rfl Wp (⟨s,by simpa using hJ,rfl⟩) ?ha_7 ?hbd_7 ?hk_7
     case ha_7=>
      intro _ x _ _;refine Zg<|Za Y<|Z0<|LQ (e:=[(6,_),(28,_)]) (Hn:=[]) ?_;exact ⟨V,V⟩
     case hbd_7=>
      intro l pre x post u e9 Hn9 H1 R1 r9 hxs hI hE9;obtain ⟨rfl,rfl⟩:=hE9;obtain ⟨s,hJ,rfl⟩:=hI;obtain ⟨post3,hp3⟩:=bG (jn:=jn) hxs0 hlt0 hxs;have hyk:=hy _ _ _ s hp3 hJ
      refine AO<|Zq<|Zg<|Zl isAgg112 Y ?_;refine Zm Y<|Ze (Fz (vs:=[_]) Y Y (hyk) Wp) ?_;rintro _ _ ⟨_,⟨s',rfl,rfl,hJ'⟩,rfl⟩;refine Zv (Br Y)<|Z0<|Zx<|AR Y (fun hb=>?_) (fun hb=>?_)
      ·
       cases hb
      refine AJ<|A9<|Ej rfl (by exact ⟨s',by rw [<-zM];exact hJ',rfl⟩)
     intro H2 hI2;obtain ⟨s,hJ,rfl⟩:=hI2;refine Zn [1,2,3,4,12] ?_;refine A9<|A9<|Zx<|Zg<|Ya (n:=1) Y Y<|Zm Y<|Z0<|Zn [12,1,2,3,4] ?_;refine Ad (e':=[(12,_)]) (by exact ⟨n+1,s,rfl,⟨by omega,by rw [RH,<-zM];exact hJ⟩,rfl,rfl⟩)
    exact Ae
   exact Ae
  obtain rfl:n=4:=by omega
  refine BG<|Zt<|Zt<|AX<|A9<|Ej rfl (by exact ⟨s,by rw [AE2,AP3];exact hJ,rfl⟩)
 intro D1 H2 hI2;obtain ⟨s,hJ,rfl⟩:=hI2;refine Zn [1,2,3] ?_;refine A9<|Zx<|Zq ?_;have hs8:=hA _ s hJ
 have hlp8:=hs8 _ hlp;have hmj8:=hs8 _ hmj
 obtain ⟨pj,cj,hpj,⟨hjm,hjc⟩,hgj⟩:=hid c.t;refine Az (n:=9) (0::1::3::7::0::16::63::127::0::[]) 0 Ao8 Ao8 V<|Ao0 0 V isAgg184 Y ?_;refine An9 1 V (Am Y V)<|An9 2 V (AB (off:=1) Ag0 V rfl sizeOf275 Y)<|Cw (D':=15) 3 V rfl V (F6 Wo (hlp8)) (BX isAgg275 Y Ap1) ?_;refine An9 4 V (AB (off:=0) AV4 V rfl AU1 Y)<|Ao0 5 V AU2 Y ?_;refine Cw (D':=127) 6 V rfl V (F6 Wo (hmj8)) (DK (CO AV3 (D:=fun _=>True)) underlying275 zeroValue36 hmpj (fun _ _=>trivial) (trivial) (hpj) Y Y) ?_;refine An9 7 V (Aa AV0 Y)<|An9 8 V (AP Y)<|Ag<|Zx<|AO<|Zb [42,3,40,41] ?_;refine BI (e0:=[(42,_)]) (fun m e H=>∃(k:Nat) (s:List A8),m=(jn c.t).length -k/\(k<=(jn c.t).length/\J ((F3 c).flatMap (fun r=>Hw sc c.t r 4)++(jn c.t).take k) s)/\e=[(42,I4 (k:Int))]/\H=[s]) (by exact ⟨0,s,V,⟨zT _,by simpa using hJ⟩,V,V⟩) Wp ?_;rintro _ _ _ ⟨k,s,rfl,⟨hk,hJ⟩,rfl,rfl⟩;refine Zq<|Zg<|Zv (Au Y Y)<|Z0<|Zx<|Zq<|Aw Y (fun hkt=>?_) (fun hkt=>?_)
 ·
  obtain ⟨id9,hid9⟩:∃x,(jn c.t)[k]?=some x:=⟨_,zD Ao7⟩;obtain ⟨g,off,cur,T,zz,rfl,hm9,hc9⟩:=hgj k id9 hid9;have hm8:=hA _ s hJ _ hm9
  have hyk:=hy _ _ _ s (show Mj sc jn c=((F3 c).flatMap (fun r=>Hw sc c.t r 4)++(jn c.t).take k)++id9::(jn c.t).drop (k+1) by unfold Mj;rw [zM,<-Ns hid9]) hJ;refine AJ<|Zx<|Zq<|AO<|Zq<|Zg<|Bq (CY AV0 AU1 Y Y Ap2)<|CW (Gc Wo (hm8)) (BX AU2 Y (by exact hc9)) rfl rfl ?_;refine Za Y<|Z0<|Zx<|Zq<|Zg<|Zl isAgg112 Y ?_;refine Zm Y<|Ze (Fz (vs:=[_]) Y Y (hyk) Wp) ?_;rintro _ _ ⟨_,⟨s',rfl,rfl,hJ'⟩,rfl⟩;refine Zv (Br Y)<|Z0<|Zx<|AR Y (fun hb=>?_) (fun hb=>?_)
  ·
   cases hb
  refine AJ<|A9<|Zx<|Zg<|Ya (n:=1) Y Y<|Zm Y<|Z0<|Zn [42,3,40,41] ?_;refine Ad (e':=[(42,_)]) (by exact ⟨k+1,s',rfl,⟨by omega,by rw [Bc hid9,<-zM];exact hJ'⟩,rfl,rfl⟩)
 obtain rfl:k=(jn c.t).length:=by omega
 rw [AA4]at hJ;refine BG<|Zt<|Zt<|AX<|Fq V (wI results184) Wo (by exact ⟨s,V,hJ⟩)
theorem Y6(h:l[i]?=some x):((CB l).drop (i*4)).take 4=[I4 x.lo,I4 x.hi,I4 x.rc,I4 x.id]:=by
 induction l generalizing i with
 |nil=>simp at h
 |cons a l ih=>
  cases i with
  |zero=>simp at h;subst h;rfl
  |succ i=>
   have h':l[i]?=some x:=by simpa using h
   rw [show(i+1)*4=i*4+4 by omega];exact ih h'
theorem Y3{s:List A8}(h:BZ 4 282 v l.length (CB l) s)(hs:∀c∈s,c∈M):TP M v l:=by
 rcases h with⟨_,⟨rfl,h0,_⟩|⟨g,cap,cur,z,rfl,rfl,hle,hcm,hcs,htk,hfr⟩⟩
 · have h1:=AB0 h0
   subst h1;exact ⟨none,0,V,⟨zT _,zh _⟩,fun i x hx=>by simp at hx⟩
 · refine ⟨_,cap,rfl,⟨by omega,hle⟩,fun i x hx=>?_⟩
   have hi:=(zF.1 hx).1;refine ⟨g,0,cur,_,z,V,hs _ (zI.2 V),by omega,?_⟩;have h1:=Y6 hx
   rw [<-htk,AP2,AJ5]at h1;apply AB8.1;rw [Array.toList_extract,AS3,zo,show i*4+4 -i*4=4 by omega];rw [show min 4 (l.length*4 -i*4)=4 by omega]at h1;exact h1
theorem YD{l:List Int}{s:List A8}(h:BZ 1 3 v l.length (l.map fun i=>Value.int .i64 i) s)(hs:∀c∈s,c∈M):qh M v l:=by
 rcases h with⟨_,⟨rfl,h0,_⟩|⟨g,cap,cur,z,rfl,rfl,hle,hcm,hcs,htk,hfr⟩⟩
 · have h1:=AB0 h0
   subst h1;exact ⟨none,0,V,⟨zT _,zh _⟩,fun i x hx=>by simp at hx⟩
 · refine ⟨_,cap,rfl,⟨by omega,hle⟩,fun i x hx=>?_⟩
   have hi:=(zF.1 hx).1;refine ⟨g,0,cur,_,z,V,hs _ (zI.2 V),?_⟩;have h1:(l.map fun i=>Value.int .i64 i)[i]?=some (I4 x):=by rw [zY,hx];rfl
   rw [<-htk,AA7,Am7 Ao7]at h1;simpa using h1
structure J8(qs:List (Int×QM))(sc:Int->Int->List IvM)(jn:Int->List Int):Prop where
 scan:∀a b v i,i∈IP v (sc a b)↔∃x∈qs,x.1=i/\plQ x=(a,b)/\x.2.lo<=v/\v<=x.2.hi
 join:∀t i,i∈jn t↔∃x∈qs,x.1=i/\x.2.kd=7/\x.2.ot=t
 small:∀t,(jn t).length<=1000000
theorem wJ{x y:Int×QM}(h:(x.1,(.agg #[I4 x.2.kd,I4 x.2.tb,I4 x.2.cl,I4 x.2.lo,I4 x.2.hi,I4 x.2.bq,I4 x.2.ot]:Value))=(y.1,(.agg #[I4 y.2.kd,I4 y.2.tb,I4 y.2.cl,I4 y.2.lo,I4 y.2.hi,I4 y.2.bq,I4 y.2.ot]:Value))):x=y:=by
 obtain ⟨a,q⟩:=x;obtain ⟨b,r⟩:=y;obtain ⟨q1,q2,q3,q4,q5,q6,q7⟩:=q;obtain ⟨r1,r2,r3,r4,r5,r6,r7⟩:=r;simp at h;simp [h]
variable{qs:List (Int×QM)}{es:Array MapEntry}{ck:Nat}
theorem lU(hok:EM qs es ck lm)(hse:Z9 lm js vs)(hd:(D5 lm js).Perm lm)(x:Int×QM):x∈vs↔x∈qs:=by
 rw [hse.2];constructor
 · rintro ⟨j,_,hj⟩
   obtain ⟨y,hy,he⟩:=(hok.mem _).1 (zP hj);rw [wJ he];exact hy
 · intro hx
   have h:=hd.mem_iff.2 ((hok.mem _).2 ⟨x,hx,rfl⟩);obtain ⟨j,hj,he⟩:=AI0.1 h;exact ⟨j,hj,he⟩
theorem iw{κ:Type} [DecidableEq κ]{l m:List (κ×Value)}(hl:(l.map (·.1)).Nodup)(hm:(m.map (·.1)).Nodup)(h:∀p,p∈l↔p∈m)(k:κ):Dm k l=Dm k m:=by
 by_cases hk:∃v,(k,v)∈l
 · obtain ⟨v,hv⟩:=hk
   rw [Ck hl hv,Ck hm ((h _).1 hv)]
 · rw [D9 (l:=l) fun p hp he=>hk ⟨p.2,by rw [<-he];exact hp⟩,D9 (l:=m) fun p hp he=>hk ⟨p.2,by rw [<-he];exact (h p).2 hp⟩]
theorem jv(h:QL o l)(v i:Int):i∈IP v l↔∃x∈o,x.lo<=v/\v<=x.hi/\x.id=i:=by
 obtain ⟨o',hp,hs,hk,hr⟩:=h;rw [kE (Xx hk hs) hr];constructor
 · rintro ⟨x,hx,h1,h2,h3⟩
   obtain ⟨y,hy,e1,e2,e3⟩:=(Xv (a:=x.lo) (b:=x.hi) (i:=x.id) hk).1 ⟨x,hx,rfl,rfl,rfl⟩;exact ⟨y,hp.mem_iff.1 hy,by omega,by omega,by omega⟩
 · rintro ⟨x,hx,h1,h2,h3⟩
   obtain ⟨y,hy,e1,e2,e3⟩:=(Xv (a:=x.lo) (b:=x.hi) (i:=x.id) hk).2 ⟨x,hp.mem_iff.2 hx,rfl,rfl,rfl⟩;exact ⟨y,hy,by omega,by omega,by omega⟩
theorem jw(h:QL o l):l.length=o.length:=by
 obtain ⟨o',hp,hs,hk,hr⟩:=h;have h1:=congrArg List.length hk
 rw [zH,zH]at h1;rw [h1];exact hp.length_eq
theorem bL(hok:EM qs es ck lm)(hjs:js.length<=1000000)(hse:Z9 lm js vs)(hd1:(D5 lm js).Perm lm)
 {MA0:List A8}(hkA:(lmA.map (·.1)).Nodup)(hfA:qm vs lmA MA0){esJ:Array MapEntry}{ckJ:Nat}{lmJ:List (Int×Value)}{MJ:List A8}(hmJ:Ce (fun n:Int=>Value.int .i64 n) esJ ckJ lmJ)(hfJ:ZB vs lmJ MJ)
 {esS:Array MapEntry}{ckS:Nat}{lmS:List ((Int×Int)×Value)}{MS:List A8}(hmS:Ce K2 esS ckS lmS)(hKD:∀p∈lmA,KD p.1)(hSm:∀p,p∈lmS↔∃k∈ks,lmA[k]?=some p)
 (hfG:TR 4 282 lmA (fun k=>(g k).length) (fun k=>CB (g k)) MS)(hgs:∀j p,lmA[j]?=some p->if j∈ks then QL (EJ vs p.1) (g p.1)else g p.1=EJ vs p.1)(hd2:(D5 lmA ks).Perm lmA)
 {mz mj:Nat}(h1:(lp,Obj.cells #[.map (some mz),.map (some mj)] 277 (0,0))∈ML)(h2:(mz,Obj.map esS ckS)∈ML)(h3:(mj,Obj.map esJ ckJ)∈ML)(h4:∀c∈MS,c∈ML)(h5:∀c∈MJ,c∈ML):
 Oi (fun a b=>g (a,b)) (F7 vs) lp ML/\J8 qs (fun a b=>g (a,b)) (F7 vs):=by
 have hv:=lU hok hse hd1;have hk2:∀j p,lmA[j]?=some p->j∈ks:=fun j p hj=>by
  obtain ⟨i,hi,he⟩:=AI0.1 (hd2.mem_iff.2 (zP hj));obtain rfl:=KX hkA he hj rfl;exact hi
 have hS:∀p,p∈lmS↔p∈lmA:=fun p=>by
  rw [hSm];constructor
  · rintro ⟨k,_,hk⟩;exact zP hk
  · intro hp
    obtain ⟨i,hi⟩:=AA1 hp;exact ⟨i,hk2 i p hi,hi⟩
 have hget:∀k,Dm k lmS=Dm k lmA:=iw hmS.keys hkA hS;have hD:∀k,QL (EJ vs k) (g k):=fun k=>by
  by_cases hk:∃v,(k,v)∈lmA
  · obtain ⟨v,hv1⟩:=hk
    obtain ⟨i,hi⟩:=AA1 hv1;have h:=hgs i _ hi
    rw [Am7 (hk2 i _ hi)]at h;exact h
  · have hn:Dm k lmA=none:=D9 fun p hp he=>hk ⟨p.2,by rw [<-he];exact hp⟩
    obtain ⟨s,hr,_⟩:=hfG.row k;obtain ⟨s',hr',_⟩:=hfA.row k;rw [hn]at hr hr';have e1:(g k).length=0:=by
     rcases hr with⟨_,⟨_,h,_⟩|⟨g9,cap,cur,z,h,_⟩⟩
     · exact h
     · simp at h
    have e2:(EJ vs k).length=0:=by
     rcases hr' with⟨_,⟨_,h,_⟩|⟨g9,cap,cur,z,h,_⟩⟩
     · exact h
     · simp at h
    rw [AB0 e1,AB0 e2];exact ⟨[],.refl _,.nil,V,fun j k x y _ h=>absurd h (AM8 k)⟩
 refine ⟨⟨⟨mz,esS,ckS,lmS,mj,esJ,ckJ,lmJ,h1,h2,hmS,fun p hp=>hKD p ((hS p).1 hp),h3,hmJ,fun a b=>?_,fun t=>?_⟩,fun a b=>?_,fun a b=>?_⟩,⟨fun a b v i=>?_,fun t i=>?_,fun t=>?_⟩⟩
 · obtain ⟨s,hr,hs⟩:=hfG.row (a,b)
   rw [hget];exact Y3 hr fun c hc=>h4 c (hs c hc)
 · obtain ⟨s,hr,hs⟩:=hfJ.row t
   exact YD hr fun c hc=>h5 c (hs c hc)
 · obtain ⟨o',hp,hso,hk,hr⟩:=hD (a,b)
   exact Xx hk hso
 · have:=jw (hD (a,b))
   have:=SS vs (a,b);have:=hse.1
   show(g (a,b)).length<=1000000;omega
 · rw [jv (hD (a,b))]
   unfold EJ;simp only [zQ,AA2,Am9];constructor
   · rintro ⟨_,⟨x,⟨hx,hp⟩,rfl⟩,a1,a2,a3⟩
     exact ⟨x,(hv x).1 hx,a3,hp,a1,a2⟩
   · rintro ⟨x,hx,a3,hp,a1,a2⟩
     exact ⟨_,⟨x,⟨(hv x).2 hx,hp⟩,V⟩,a1,a2,a3⟩
 · unfold F7
   simp only [zQ,AA2,Am9];constructor
   · rintro ⟨x,⟨hx,a1,a2⟩,rfl⟩
     exact ⟨x,(hv x).1 hx,V,a1,a2⟩
   · rintro ⟨x,hx,rfl,a1,a2⟩
     exact ⟨x,⟨(hv x).2 hx,a1,a2⟩,V⟩
 · have:=YE vs t
   have:=hse.1;omega
variable{mp ip:Nat}
theorem jA(hok:EM qs es ck lm)(hq:∀x∈qs,BH x.2)(hl:qs.length<=500):BR Tryz.prog 111 #[I5 ip] [[(ip,.cells #[.map (some mp),.pointer none] 186 (0,0))],[(mp,.map es ck)]] (fun r H'=>∃lp ML sc jn,r=I5 lp/\Oi sc jn lp ML/\J8 qs sc jn/\H'=[[(ip,.cells #[.map (some mp),I5 lp] 186 (0,0))],[(mp,.map es ck)],ML]):=by
 have hml:=mL;have hll:=hok.len
 refine Se func111 ntmps111 [0] ?_;intro u R;refine Zq<|Zg<|Za Y<|Z0<|Zx<|Zq<|Zq<|Zg<|Zm Y<|Zp Y V<|Zh 1 AZ7 V rfl Ah0 Y<|Zl isAgg184 Y ?_;refine Zv (Mi underlying184 Y Y)<|Z0<|Zx<|AR Y (fun hb=>?_) (fun hb=>?_)
 ·
  cases hb
 refine AJ<|Zx<|Zq<|Zg<|Ze (D6) ?_;rintro _ _ ⟨ma,rfl,rfl⟩;refine Za Y<|Z0<|Zx<|Zq<|Zg<|Ze (D6) ?_;rintro _ _ ⟨mz,rfl,rfl⟩;refine Ze (D6) ?_;rintro _ _ ⟨mj,rfl,rfl⟩;refine Zv (BL (vs:=[(0,_),(1,_)]) (cs:=#[_,_]) Y (AY (pl:=#[(0,1),(1,1)]) zeroValue277 Ag0 (fun _=>by kernel_rfl) V))<|Ze (Bx #[_,_]) ?_;rintro _ _ ⟨lp,rfl,rfl⟩;refine Za Y<|Z0<|Zn [0,3,4] ?_;refine Zx<|Zq<|Zq<|Zg<|Zm Y<|Zp Y V<|Zh 0 AZ7 V rfl Aj1 Y<|Zl Am1 Y ?_;refine Ze (Ms Af5 Y Wh) ?_;rintro _ _ ⟨ib,rfl,rfl⟩;refine Z0<|Zx<|AO<|BV<|BV<|BV<|Zb [0,3,4,32] ?_;refine BI (e0:=[]) (fun m e H=>∃(js:List Nat) (seen:Array Nat) (vs:List (Int×QM)) (esA:Array MapEntry) (ckA:Nat) (lmA:List ((Int×Int)×Value)) (esJ:Array MapEntry) (ckJ:Nat) (lmJ:List (Int×Value)) (MA MJ MK:List A8),m=lm.length -js.length/\(IQ es js seen/\Z9 lm js vs/\Ce K2 esA ckA lmA/\(∀p∈lmA,KD p.1)/\qm vs lmA MA/\Ce (fun n:Int=>Value.int .i64 n) esJ ckJ lmJ/\ZB vs lmJ (MJ++MK))/\e=[]/\H=[[(ib,.mapIter (some mp) ck seen ck)],[(ma,.map esA ckA)],[(mj,.map esJ ckJ)],MA,MJ,MK]) (by exact ⟨[],#[],[],#[],0,[],#[],0,[],[],[],[],V,⟨Jt _,⟨V,fun x=>by simp⟩,E5 _,fun p hp=>by simp at hp,YT _ _,E5 _,YT _ _⟩,V,V⟩) Wp ?_;rintro _ _ _ ⟨js,seen,vs,esA,ckA,lmA,esJ,ckJ,lmJ,MA,MJ,MK,rfl,⟨hit,hse,hmA,hkA,hfA,hmJ,hfJ⟩,rfl,rfl⟩;have hjl:=El es.size js hit.nodup hit.lt
 rw [hok.map.size]at hjl;refine Zq<|Zg<|Ze (Oq hok.map hit Y Wo Wh) ?_;rintro _ _ hnx;rcases hnx with⟨hdone,rfl,rfl⟩|⟨jn,pn,seen2,hpn,hjn,hi2,rfl,rfl⟩
 ·
  have hd1:=hdone;have hit1:=hit
  refine Zd Y V<|Z0<|Zx<|Zq<|AR Y (fun hb=>?_) (fun hb=>?_)
  ·
   cases hb
  refine BG<|Zt<|Zt<|AX<|Zx<|Zq<|Zq<|Zg<|Zm Y<|Ze (Ms underlying273 Y Wh) ?_;rintro _ _ ⟨ic,rfl,rfl⟩;refine Z0<|Zx<|AO<|BV<|Zb [0,4,79] ?_;refine BI (e0:=[]) (fun m e H=>∃(ks:List Nat) (seen:Array Nat) (g:Int×Int->List IvM) (esS:Array MapEntry) (ckS:Nat) (lmS:List ((Int×Int)×Value)) (MA MB:List A8),m=lmA.length -ks.length/\(IQ esA ks seen/\Ce K2 esS ckS lmS/\(∀p,p∈lmS↔∃k∈ks,lmA[k]?=some p)/\TR 4 282 lmA (fun k=>(g k).length) (fun k=>CB (g k)) (MA++MB)/\(∀j p,lmA[j]?=some p->if j∈ks then QL (EJ vs p.1) (g p.1)else g p.1=EJ vs p.1))/\e=[]/\H=[[(ic,.mapIter (some ma) ckA seen ckA)],[(mz,.map esS ckS)],MA,MB]) (by exact ⟨[],#[],EJ vs,#[],0,[],MA,[],rfl,⟨Jt _,E5 _,fun p=>by simp,by rw [zV];exact hfA,fun j p _=>by simp⟩,rfl,rfl⟩) Wp ?_;rintro _ _ _ ⟨ks,seen,g,esS,ckS,lmS,MA,MB,rfl,⟨hit2,hmS,hSm,hfG,hgs⟩,rfl,rfl⟩;have hkl:=El esA.size ks hit2.nodup hit2.lt
  rw [hmA.size]at hkl;refine Zq<|Zg<|Ze (Oq hmA hit2 Y Wo Wh) ?_;rintro _ _ hnx;rcases hnx with⟨hdone,rfl,rfl⟩|⟨jn,pn,seen2,hpn,hjn,hi2,rfl,rfl⟩
  ·
   refine Zd Y V<|Z0<|Zx<|Zq<|AR Y (fun hb=>?_) (fun hb=>?_)
   ·
    cases hb
   refine BG<|Zt<|Zt<|AX<|Zx<|Zq<|C8 (s1:=[(lp,Obj.cells #[.map (some mz),.map (some mj)] 277 (0,0))]) (s2:=[(mz,Obj.map esS ckS)]) Wo Wo ?_;refine C8 (s1:=([(lp,Obj.cells #[.map (some mz),.map (some mj)] 277 (0,0))]++[(mz,Obj.map esS ckS)])) (s2:=[(mj,Obj.map esJ ckJ)]) Wo Wo ?_;refine C8 (s1:=(([(lp,Obj.cells #[.map (some mz),.map (some mj)] 277 (0,0))]++[(mz,Obj.map esS ckS)])++[(mj,Obj.map esJ ckJ)])) (s2:=MA) Wo Wo ?_;refine C8 (s1:=((([(lp,Obj.cells #[.map (some mz),.map (some mj)] 277 (0,0))]++[(mz,Obj.map esS ckS)])++[(mj,Obj.map esJ ckJ)])++MA)) (s2:=MB) Wo Wo ?_;refine C8 (s1:=(((([(lp,Obj.cells #[.map (some mz),.map (some mj)] 277 (0,0))]++[(mz,Obj.map esS ckS)])++[(mj,Obj.map esJ ckJ)])++MA)++MB)) (s2:=MJ) Wo Wo ?_;refine C8 (s1:=((((([(lp,Obj.cells #[.map (some mz),.map (some mj)] 277 (0,0))]++[(mz,Obj.map esS ckS)])++[(mj,Obj.map esJ ckJ)])++MA)++MB)++MJ)) (s2:=MK) Wo Wo ?_;refine Zg<|Zm Y<|Zm Y<|Zp Y V<|Zh 1 AZ7 V rfl Ah0 Y<|Xe (Zs Ah0 Y Y V) ?_;refine Z0<|Zx<|Zq<|Zg<|Zm Y<|Za Y<|Z0<|Zx<|AC<|AL V results111 Y (by
    have hjs:=El es.size js hit1.nodup hit1.lt;rw [hok.map.size]at hjs;obtain ⟨hL1,hL2⟩:=bL hok Ao7 hse hd1 hmA.keys hfA hmJ hfJ hmS hkA hSm hfG hgs hdone (lp:=lp) (mz:=mz) (mj:=mj) (ML:=(((((([(lp,Obj.cells #[.map (some mz),.map (some mj)] 277 (0,0))]++[(mz,Obj.map esS ckS)])++[(mj,Obj.map esJ ckJ)])++MA)++MB)++MJ)++MK)) Ap0 Ap0 Ap0 (fun c hc=>by simp only [zJ]at hc⊢;rcases hc with hc|hc<;>simp [hc]) (fun c hc=>by simp only [zJ]at hc⊢;rcases hc with hc|hc<;>simp [hc]);exact ⟨lp,_,_,_,V,hL1,hL2,V⟩)
  refine Zd Y V<|Z0<|Zx<|Zq<|AR Y (fun hb=>?_) (fun hb=>?_)
  ·
   have hkl2:=El esA.size (ks++[jn]) hi2.nodup hi2.lt;rw [hmA.size,zG,zU]at hkl2;have hla:(ks++[jn]).length=ks.length+1:=by rw [zG];rfl
   refine AJ<|Zx<|AO<|Zq<|Zg<|CW (cs:=[(ic,.mapIter (some ma) ckA seen2 ckA),(ma,.map esA ckA)]) Ap0 (Ir hmA hi2 hpn Y) V rfl ?_;refine Zd Y V<|Zd Y V<|Ze (Al Al4 #[_,_]) ?_;rintro _ _ ⟨kb,rfl,rfl⟩;refine Xe (Xw sizeOf279 #[I4 pn.1.1,I4 pn.1.2]) ?_;refine Za Y<|Z0<|Zx ?_;have hg0:g pn.1=EJ vs pn.1:=by have h:=hgs jn pn hpn;rwa [Am6 hjn]at h
   have hgl:(g pn.1).length<=1000000:=by rw [hg0];have:=SS vs pn.1;have:=hse.1;omega
   have hkS:∀p∈lmS,KD p.1:=fun p hp=>by
    obtain ⟨k,_,hk⟩:=(hSm p).1 hp;exact hkA p (zP hk)
   have hkp:KD pn.1:=hkA pn (zP hpn);obtain ⟨sA,MA2,hrow,hperm,hput⟩:=Ph hmA.keys hfG pn.1;rw [Ck hmA.keys (zP hpn)]at hrow;refine C8 (s1:=MA) (s2:=MB) Wo Wo ?_;refine TH (M:=MA++MB) Wo hperm ?_;refine Az (n:=8) (0::1::3::7::0::0::32::127::[]) 192 Ao8 Ao8 V<|An9 0 V (AP Y)<|An9 1 V (Am Y V)<|An9 2 V (AB (off:=0) Ag0 V rfl sizeOf274 Y)<|Ao0 3 V isAgg274 Y ?_;refine Ao4 4 V Wh (AA (cs:=#[I4 pn.1.1,I4 pn.1.2]) isAgg279 sizeOf279 Y Wn (by exact BD V)) ?_;refine An9 5 V (AP Y)<|Zz (l:=[6])<|Ao5 [true,true] [(4,(_,_)),(3,(_,_))] V rfl (Zw [_] Y call183 Y V (bE _ (g pn.1) sA hgl hrow)) ?hk_4 Bp ?hl_4
   case hk_4=>
    rintro _ _ ⟨_,⟨rfl,s2,l2,o2,hpm,hso,hky,hrun,hr2,rfl⟩,rfl⟩;refine ⟨Zk (Zk (AV)),?_⟩;refine Yw 7 255 V (Et Ri underlying274 hmS hkS (hkp) Y Y Y Wo) ?_;rintro _ _ ⟨rfl,es5,ck5,lm5,hm5,hp5,rfl⟩;refine Ag<|Zn [0,4,79] ?_;refine A9<|Zn [0,4,79] ?_;refine Ad (e':=[]) (by exact ⟨ks++[jn],seen2,fun k=>if k=pn.1 then l2 else g k,es5,ck5,lm5,s2,MA2,V,⟨hi2,hm5,aC hmA.keys hpn hjn hSm hp5,uQ (hput pn.2 s2 _ _ lmA hmA.keys (j4 hmA.keys hpn) hr2),dD hmA.keys hpn hjn hgs ⟨o2,hpm,hso,hky,hrun⟩⟩,V,V⟩)
   exact Ae
  cases hb
 obtain ⟨x,hx,rfl⟩:=(hok.mem pn).1 (zP hpn);have hqx:=hq x hx
 refine Zd Y V<|Z0<|Zx<|Zq<|AR Y (fun hb=>?_) (fun hb=>?_)
 ·
  have hjl2:=El es.size (js++[jn]) hi2.nodup hi2.lt;rw [hok.map.size,zG,zU]at hjl2;have hla:(js++[jn]).length=js.length+1:=by rw [zG];rfl
  have hvj:=hse.1;have hiv:=SS vs (plQ x)
  have hij:=YE vs x.2.ot;have hse2:=aD hse hpn
  refine AJ<|Zx<|AO<|Zq<|Zg<|CW (cs:=[(ib,.mapIter (some mp) ck seen2 ck),(mp,.map es ck)]) Ap0 (Ir hok.map hi2 hpn Y) V rfl ?_;refine Zd Y V<|Zd Y V<|Ze (Al Ad8 #[_,_,_,_,_,_,_]) ?_;rintro _ _ ⟨xb,rfl,rfl⟩;refine Za Y<|Xe (Xw AV8 #[I4 x.2.kd,I4 x.2.tb,I4 x.2.cl,I4 x.2.lo,I4 x.2.hi,I4 x.2.bq,I4 x.2.ot]) ?_;refine Z0<|Zx<|Zq<|Zg<|Zo Wh (AA (cs:=#[I4 x.2.kd,I4 x.2.tb,I4 x.2.cl,I4 x.2.lo,I4 x.2.hi,I4 x.2.bq,I4 x.2.ot]) AX9 AV8 Y Wn (by exact BD V)) ?_;refine Zc [_] Y call178 Y V (gU x.2 hqx) ?_;rintro _ _ ⟨_,⟨rfl,rfl⟩,rfl⟩;refine Zm Y<|Zd Y V<|Zd Y V<|Zd Y V<|Zd Y V<|Za Y<|Za Y<|Za Y<|Za Y<|Z0<|Zn [0,3,4,5,6,7,8,9,10,32] ?_;refine Zx<|Zq<|Zg<|Zm Y<|Zm Y<|Zv (BL (vs:=[(0,_),(1,_)]) (cs:=#[_,_]) Y (AY (pl:=#[(0,1),(1,1)]) Al4 Ah8 (fun _=>by kernel_rfl) V))<|Ze (Al Al4 #[_,_]) ?_;rintro _ _ ⟨pb,rfl,rfl⟩;refine Xe (BK sizeOf279 Y Y (by(simp [Value.oneCell',Value.cells];done)) Wu (by exact (rfl:_=(#[I4 x.2.tb,I4 x.2.cl]:Array Value))) Ap3 Wn (by exact BF _)) ?_;refine Z0<|Zx<|Zq ?_;obtain ⟨sA,MA2,hrow,hperm,hput⟩:=jk hmA.keys hfA x;obtain ⟨qo,capo,hqo⟩:=hrow.form;rw [hqo]at hrow;have hkx:KD (plQ x):=⟨U3 (by have:=hqx.1;simp [plQ];omega),U3 (by have:=hqx.2.1;simp [plQ];omega)⟩
  refine TH (M:=MA) Wo hperm ?_;refine Zg<|Zm Y<|Zo Wh (AA (cs:=#[I4 x.2.tb,I4 x.2.cl]) isAgg279 sizeOf279 Y Wn (by exact BD V)) ?_;refine Zm Y<|Zm Y<|Zm Y<|Zv (BL (vs:=[(0,_),(1,_),(3,_)]) (cs:=#[_,_,_,_]) Y (AY (pl:=#[(0,1),(1,1),(2,1),(3,1)]) zeroValue282 Ac5 (fun _=>by kernel_rfl) V))<|Ze (Af (vs:=[_]) (cs:=[_,_,_,_]) Ad3 Ad2 zeroValue282 Y V rfl V rfl V) ?_;rintro _ _ ⟨gb,rfl,rfl⟩;refine Ze (K6 Ri underlying273 zeroValue280 hmA hkA (hkx) (hqo) Y Y Wo) ?_;rintro _ _ ⟨es3,ck3,lm3,j3,st3,rfl,hm3,hj3,hb3,hp3,rfl⟩;refine Zd Y V<|Ze (Bl (by_:=32) (sz:=4) Ad3 (V:Tryz.prog.info? 282=some Tryz.t282) V rfl V rfl Y (hrow) Y (DD 4 gb 1 1 282 (0,0) [I4 (QS x).lo,I4 (QS x).hi,I4 (QS x).rc,I4 (QS x).id] V) Wo Wo Ap5 Ao7 Ao7) ?_;rintro _ _ ⟨sa9,hra9,rfl⟩;have hnew:=BO hra9 (n':=(EJ vs (plQ x)++[QS x]).length) (xs':=CB (EJ vs (plQ x)++[QS x])) (by rw [zG];rfl) (by rw [Y7];rfl)
  obtain ⟨ga9,ca9,rfl⟩:=hra9.form;refine Zd Y V<|Ze (IU hm3 hj3 hb3 Y Y Y Wo) ?_;rintro _ _ ⟨rfl,es4,ck4,lm4,hm4,hp4,rfl⟩;refine Z0<|Zn [0,3,4,5,6,32] ?_;refine Zx<|Zq ?_;have hk4:∀p∈lm4,KD p.1:=fun p hp=>by
   rcases (hp4 p).1 hp with rfl|⟨h,_⟩
   · exact hkx
   · rcases (hp3 p).1 h with rfl|⟨h,_⟩
     · exact hkx
     · exact hkA p h
  have hfI2:=hput _ _ _ hm4.keys (fun p=>by rw [hp4,hp3];exact Nn _ _ _ _) hnew;refine C8 (s1:=sa9) (s2:=MA2) Wo Wo ?_;refine Zg<|Zh 0 AU9 V rfl AU1 Y<|Zl AU2 Y ?_;refine Zv (CL Y Y)<|Z0<|Zx<|Aw Y (fun h7=>?_) (fun h7=>?_)
  ·
   obtain ⟨sJ,MJ2,hrowj,hpermj,hputj⟩:=jh hmJ.keys hfJ x h7;obtain ⟨qj,capj,hqj⟩:=hrowj.form;rw [hqj]at hrowj;refine C8 (s1:=MJ) (s2:=MK) Wo Wo ?_;refine TH (M:=MJ++MK) Wo hpermj ?_;refine Az (n:=17) (0::1::3::7::0::16::0::64::192::448::0::1024::4032::0::8192::32704::65535::[]) 114688 Ao8 Ao8 V<|An9 0 V (AP Y)<|An9 1 V (Am Y V)<|An9 2 V (AB (off:=1) Ag0 V rfl sizeOf275 Y)<|Ao0 3 V isAgg275 Y ?_;refine An9 4 V (AB (off:=6) AU9 V rfl AU1 Y)<|Ao0 5 V AU2 Y ?_;refine An9 6 V (AP Y)<|An9 7 V (Am Y V)<|An9 8 V (AB (off:=1) Ag0 V rfl sizeOf275 Y)<|Ao0 9 V isAgg275 Y ?_;refine An9 10 V (AB (off:=6) AU9 V rfl AU1 Y)<|Ao0 11 V AU2 Y ?_;refine Ao4 12 V Wh (DK (CO AV3 (D:=fun _=>True)) underlying275 zeroValue36 hmJ (fun _ _=>trivial) (trivial) (hqj) Y Y) ?_;refine An9 13 V (AP Y)<|Zz (l:=[14])<|Ao5 [true,true,true,true,true] [(12,(_,_)),(11,(_,_)),(9,(_,_)),(5,(_,_)),(3,(_,_))] V rfl (Af (vs:=[_]) (cs:=[_]) AV0 AU1 AX6 Y V rfl V rfl V) ?hk_7 (fun _ _ h=>h.elim) ?hl_7
   case hk_7=>
    rintro _ _ ⟨gj,rfl,rfl⟩;refine ⟨Zk (Zk (Zk (Zk (Zk (AV))))),?_⟩;refine Yz 15 32704 65535 [12,11,9,5,3] [false,false,false,true,true] [(5,(_,_)),(3,(_,_))] V Y V rfl V rfl (Bl (by_:=8) (sz:=1) AV0 (V:Tryz.prog.info? 3=some Tryz.t3) V rfl V rfl Y (hrowj) Y (DD 1 gj 1 1 3 (0,0) [I4 x.1] V) Wo Wo Ap5 Ao7 Ao7) ?_;rintro _ _ ⟨sa8,hra8,rfl⟩;refine ⟨Zk (Zk (AV)),?_⟩;have hnewj:=BO hra8 (n':=(F7 vs x.2.ot++[x.1]).length) (xs':=(F7 vs x.2.ot++[x.1]).map fun i=>Value.int .i64 i) (by rw [zG];rfl) (by rw [zK];rfl)
    obtain ⟨ga8,ca8,rfl⟩:=hra8.form;refine Yw 16 131071 V (Et (CO AV3 (D:=fun _=>True)) underlying275 hmJ (fun _ _=>trivial) (trivial) Y Y Y Wo) ?_;rintro _ _ ⟨rfl,es6,ck6,lm6,hm6,hp6,rfl⟩;refine Ag<|Zn [0,3,4,32] ?_;refine A9<|Zn [0,3,4,32] ?_;refine Ad (e':=[]) (by exact ⟨js++[jn],seen2,vs++[x],es4,ck4,lm4,es6,ck6,lm6,sa9++MA2,sa8,MJ2,V,⟨hi2,hse2,hm4,hk4,hfI2,hm6,hputj _ _ _ hm6.keys hp6 hnewj⟩,V,V⟩)
   exact Ae
  refine AJ<|A9<|Zn [0,3,4,32] ?_;refine Ad (e':=[]) (by exact ⟨js++[jn],seen2,vs++[x],es4,ck4,lm4,esJ,ckJ,lmJ,sa9++MA2,MJ,MK,V,⟨hi2,hse2,hm4,hk4,hfI2,hmJ,ji hfJ x h7⟩,V,V⟩)
 cases hb
theorem jB:BR Tryz.prog 111 #[I5 ip] [[(ip,.cells #[.map (some mp),I5 lp] 186 (0,0))]] (fun r H'=>r=I5 lp/\H'=[[(ip,.cells #[.map (some mp),I5 lp] 186 (0,0))]]):=by
 refine Se func111 ntmps111 [0] ?_;intro u R;refine Zq<|Zg<|Za Y<|Z0<|Zx<|Zq<|Zq<|Zg<|Zm Y<|Zp Y V<|Zh 1 AZ7 V rfl Ah0 Y<|Zl isAgg184 Y ?_;refine Zv (Mh underlying184 Y Y)<|Z0<|Zx<|AR Y (fun hb=>?_) (fun hb=>?_)
 ·
  refine Zq<|Zg<|Zm Y<|Zp Y V<|Zh 1 AZ7 V rfl Ah0 Y<|Zl isAgg184 Y ?_;refine Za Y<|Z0<|Zx<|AC<|Zt<|AL V results111 Y (by exact ⟨V,V⟩)
 cases hb
theorem H5{r:AQ}:r∈F3 c↔(c.had=true/\r=⟨c.t,c.k,c.o⟩)\/(c.has=true/\r=⟨c.t,c.k,c.n⟩):=by
 unfold F3 IB;rw [zJ];cases c.had<;>cases c.has<;>simp
theorem N8(h:c.ok){r:AQ}(hr:r∈F3 c):r.ok:=by
 obtain ⟨_,h2,_,_⟩:=h;rcases H5.1 hr with⟨h1,rfl⟩|⟨h1,rfl⟩
 · have e:c.before=⟨c.t,c.k,c.o⟩:=by unfold Chg.before;rw [Am7 h1]
   rw [e]at h2;exact AF6 fun h3=>h2 (.inl ⟨h1,h3⟩)
 · have e:c.after=⟨c.t,c.k,c.n⟩:=by unfold Chg.after;rw [Am7 h1]
   rw [e]at h2;exact AF6 fun h3=>h2 (.inr ⟨h1,h3⟩)
theorem ZP(h:c.ok):∀r∈F3 c,∀n:Nat,n<4->-1000000000000<=DR r n/\DR r n<=1000000000000:=fun r hr n _=>by
 obtain ⟨⟨h1,h2,h3⟩,h4,h5⟩:=N8 h hr;simp only [inV]at h1 h2 h3;unfold DR;split
 · omega
 · split
   · omega
   · split<;>omega
theorem ZR(h:c.ok):0<=c.t/\c.t<=3:=by
 have h0:c.had=true\/c.has=true:=by
  obtain ⟨h1,_⟩:=h;cases e1:c.had<;>cases e2:c.has<;>simp_all
 rcases h0 with h0|h0
 · exact (N8 h (H5.2 (.inl ⟨h0,rfl⟩))).2.1
 · exact (N8 h (H5.2 (.inr ⟨h0,rfl⟩))).2.1
theorem uj{q:QM}(h:NZ q c=true):∃r∈F3 c,inQ q r=true:=by
 unfold NZ bfQ afQ Gx at h;rw [AG7]at h;rcases h with h|h
 · split at h
   · rename_i h1
     rw [zy]at h1;exact ⟨_,H5.2 (.inl ⟨h1.1,V⟩),h1.2⟩
   · cases h
 · split at h
   · rename_i h1
     rw [zy]at h1;exact ⟨_,H5.2 (.inr ⟨h1.1,V⟩),h1.2⟩
   · cases h
theorem gG{q:QM}(hq:BH q)(h:CU q c=true):NZ q c=true\/(q.kd=7/\c.t=q.ot):=by
 have hn:NZ q c=false->Tn q c=false/\mQ q (bfQ q c)=mQ q (afQ q c):=fun h=>by
  unfold NZ at h;unfold Tn;rw [AL6]at h;obtain ⟨h1,h2⟩:=h;rw [h1,h2];rw [Option.isSome_eq_false_iff,Option.isNone_iff_eq_none]at h1 h2;rw [h1,h2];exact ⟨rfl,rfl⟩
 cases ha:NZ q c with
 |true=>exact .inl rfl
 |false=>
  obtain ⟨h1,h2⟩:=hn ha;unfold CU at h;rw [ha,h1,h2]at h;obtain ⟨_,_,_,hk⟩:=hq;right;simp at h;exact ⟨by omega,h.2.2.2.2⟩
theorem nW(hL:J8 qs sc jn){i:Int}(h:i∈Mj sc jn c):∃x∈qs,x.1=i:=by
 unfold Mj at h;rcases zJ.1 h with h|h
 · obtain ⟨r,_,h⟩:=AF8.1 h
   obtain ⟨n,_,h⟩:=AF8.1 h;obtain ⟨x,hx,he,_⟩:=(hL.scan _ _ _ _).1 h;exact ⟨x,hx,he⟩
 · obtain ⟨x,hx,he,_⟩:=(hL.join _ _).1 h
   exact ⟨x,hx,he⟩
theorem wS(hok:EM qs es ck lm){x y:Int×QM}(hx:x∈qs)(hy:y∈qs)(he:x.1=y.1):x=y:=by
 have go:∀{l:List (Int×QM)},(l.map (·.1)).Nodup->x∈l->y∈l->x=y:=fun{l}=>by
  induction l with
  |nil=>intro _ h;cases h
  |cons a l ih=>
   intro hn h1 h2;rw [zx,AB9]at hn;rcases za.1 h1 with h3|h3
   · rcases za.1 h2 with h4|h4
     · rw [h3,h4]
     · exact absurd (by rw [<-h3,he];exact zS h4) hn.1
   · rcases za.1 h2 with h4|h4
     · exact absurd (by rw [<-h4,<-he];exact zS h3) hn.1
     · exact ih hn.2 h3 h4
 exact go hok.ids hx hy
theorem bF(hL:J8 qs sc jn){x:Int×QM}(hx:x∈qs)(hq:BH x.2)(h:CU x.2 c=true):x.1∈Mj sc jn c:=by
 unfold Mj;rcases gG hq h with h|⟨h7,ht⟩
 · obtain ⟨r,hr,hi⟩:=uj h
   unfold inQ at hi;rw [Am9]at hi;have hc:=hq.2.1
   have hv:=Kr r x.2.cl.toNat Ao7;rw [show((x.2.cl.toNat:Nat):Int)=x.2.cl by omega]at hv;have ht:r.t=c.t:=by rcases H5.1 hr with⟨_,rfl⟩|⟨_,rfl⟩<;>rfl
   refine zR _ (AF8.2 ⟨r,hr,AF8.2 ⟨x.2.cl.toNat,AD6.2 Ao7,?_⟩⟩);refine (hL.scan _ _ _ _).2 ⟨x,hx,V,?_,by omega,by omega⟩;unfold plQ;rw [show((x.2.cl.toNat:Nat):Int)=x.2.cl by omega,<-ht,hi.1]
 · exact zZ _ ((hL.join _ _).2 ⟨x,hx,rfl,h7,ht.symm⟩)
def VC(qs:List (Int×QM))(lv:Value)(ML:List A8):Prop:=(lv= .pointer none/\ML=[])\/∃lp sc jn,lv=I5 lp/\Oi sc jn lp ML/\J8 qs sc jn
theorem dF{P:Program}{f:FuncId}{args:Array Value}{H1 H2:Hp}{Q:Value->Hp->Prop}(h:BR P f args H1 Q)(e:H2.flatten=H1.flatten):BR P f args H2 Q:=fun u R w hs=>h u R w (hs.perm (by rw [AA0,AA0,e]))
theorem ny(hok:EM qs es ck lm)(hq:∀x∈qs,BH x.2)(hl:qs.length<=500){lv:Value}(hst:VC qs lv ML):
 BR Tryz.prog 111 #[I5 ip] [[(ip,.cells #[.map (some mp),lv] 186 (0,0))],[(mp,.map es ck)],ML] (fun r H'=>∃lp ML' sc jn,r=I5 lp/\Oi sc jn lp ML'/\J8 qs sc jn/\H'=[[(ip,.cells #[.map (some mp),I5 lp] 186 (0,0))],[(mp,.map es ck)],ML']):=by
 rcases hst with⟨rfl,rfl⟩|⟨lp,sc,jn,rfl,h1,h2⟩
 · refine (dF (H1:=[[(ip,.cells #[.map (some mp),.pointer none] 186 (0,0))],[(mp,.map es ck)]]) (jA hok hq hl) Ap0).mono ?_
   exact fun v H' h=>h
 · refine (dE jB [[(mp,.map es ck)],ML]).mono ?_
   rintro v H' ⟨H1,⟨rfl,rfl⟩,rfl⟩;exact ⟨lp,ML,sc,jn,V,h1,h2,V⟩
structure HV(S:Int->Prop)(es:Array MapEntry)(ck:Nat)(lm:List (Int×Value)):Prop where
 map:Ce (fun n:Int=>Value.int .i64 n) es ck lm
 val:∀p∈lm,p.2= .bool true
 mem:∀i,i∈lm.map (·.1)↔S i
theorem cZ:HV (fun _=>False) #[] 0 []:=⟨E5 _,fun p h=>by simp at h,fun i=>by simp⟩
variable{S:Int->Prop}
theorem HV.get(h:HV S es ck lm)(i:Int) [Decidable (S i)]:(Dm i lm).getD (.bool false)= .bool (decide (S i)):=by
 by_cases hi:S i
 · obtain ⟨p,hp,rfl⟩:=zQ.1 ((h.mem i).2 hi)
   rw [Ck h.map.keys hp,h.val p hp,Am8 hi];rfl
 · rw [D9 fun p hp he=>hi ((h.mem i).1 (zQ.2 ⟨p,hp,he⟩)),Am5 hi];rfl
theorem HV.cong{T:Int->Prop}(h:HV S es ck lm)(e:∀i,S i↔T i):HV T es ck lm:=⟨h.map,h.val,fun i=>(h.mem i).trans (e i)⟩
theorem HV.put{es':Array MapEntry}{ck':Nat}{lm':List (Int×Value)}(h:HV S es ck lm){i:Int}(hm:Ce (fun n:Int=>Value.int .i64 n) es' ck' lm')(hp:∀p,p∈lm'↔p=(i,.bool true)\/(p∈lm/\p.1≠i)):HV (fun j=>S j\/j=i) es' ck' lm':=by
 refine ⟨hm,fun p hp1=>?_,fun j=>?_⟩
 · rcases (hp p).1 hp1 with rfl|⟨h1,_⟩
   · rfl
   · exact h.val p h1
 · rw [<-h.mem]
   constructor
   · intro hj
     obtain ⟨p,hp1,rfl⟩:=zQ.1 hj;rcases (hp p).1 hp1 with rfl|⟨h1,_⟩
     · exact .inr rfl
     · exact .inl (zS h1)
   · intro hj
     by_cases hji:j=i
     · subst hji;exact zQ.2 ⟨_,(hp _).2 (.inl rfl),rfl⟩
     · obtain ⟨p,hp1,rfl⟩:=zQ.1 (hj.resolve_right hji)
       exact zQ.2 ⟨p,(hp p).2 (.inr ⟨hp1,hji⟩),V⟩
theorem HV.len(h:HV S es ck lm)(hS:∀i,S i->∃x∈qs,x.1=i):lm.length<=qs.length:=by
 have h1:∀{a b:List Int},a.Nodup->(∀x∈a,x∈b)->a.length<=b.length:=fun{a b}=>by
  induction a generalizing b with
  |nil=>intro _ _;exact zT _
  |cons x a ih=>
   intro hn hs;obtain ⟨hx,hn⟩:=AB9.1 hn;have h2:=ih (b:=b.erase x) hn fun y hy=>by
    have hne:y≠x:=fun e=>hx (e▸hy);exact (List.mem_erase_of_ne hne).2 (hs y (zW _ hy))
   have h3:=AO2 (hs x (zX ..));have h4:=List.length_pos_of_mem (hs x (zX ..))
   rw [ze];omega
 have h2:=h1 (a:=lm.map (·.1)) (b:=qs.map (·.1)) h.map.keys fun i hi=>by
  obtain ⟨x,hx,he⟩:=hS i ((h.mem i).1 hi);exact zQ.2 ⟨x,hx,he⟩
 simpa using h2
def J9(qs:List (Int×QM))(cs:List Chg)(i:Int):Prop:=∃x∈qs,x.1=i/\∃c∈cs,CU x.2 c=true
end Go.Proofs.YteaiajghbkenoaaGreatDoor
namespace Go.Proofs.YteaiajghbkenoaaGreatDoor
open Go.Proofs.Tryz
open Go Go.RowKit Gw
set_option maxRecDepth 100000
attribute [local irreducible] Gw.At Gw.Nx Gw.Ops
open Go.Sort
theorem Rq{κ:Type}{l:List (κ×Value)}{js:List Nat}(hn:js.Nodup)(hlt:∀j∈js,j<l.length):∃rest,((D5 l js).map (·.1)++rest).Perm (l.map (·.1)):=by
 have hp:(js++(List.range l.length).filter fun j=>decide (j∉js)).Perm (List.range l.length):=(AC0 (AA5.2 ⟨hn,(AN3).sublist AF5,fun a ha b hb=>by
  have:=(AA2.1 hb).2;simp only [Am9]at this;intro h;subst h;exact this ha⟩) AN3).2 fun a=>by
  simp only [zJ,AA2,AD6,Am9];constructor
  · rintro (h|h)
    · exact hlt a h
    · exact h.1
  · intro h
    by_cases ha:a∈js
    · exact .inl ha
    · exact .inr ⟨h,ha⟩
 have h:=(hp.filterMap (fun j=>l[j]?)).map (·.1);rw [AJ9,zK,show(List.range l.length).filterMap (fun j=>l[j]?)=D5 l (List.range l.length) from rfl,Mg]at h;exact ⟨_,h⟩
def MH{κ:Type}(l:List (κ×Value))(p:List κ):Prop:=∃rest,(p++rest).Perm (l.map (·.1))
theorem MH.len{κ:Type}{l:List (κ×Value)}{p:List κ}{x:κ}(h:MH l (p++[x])):p.length<l.length:=by
 obtain ⟨r,h⟩:=h;have:=h.length_eq
 simp at this;omega
theorem aA{v:Value}{zs:List Int}{s:List A8}(hr:Row 3 v (zs.map (Value.int .i64)) s)(hl:zs.length<=1000000):BR Tryz.prog 188 #[v] [s] (fun r H'=>∃(zs':List Int) (s':List A8),r= .tuple #[]/\zs'.Perm zs/\(zs'.Pairwise fun x y=>x<=y)/\Row 3 v (zs'.map (Value.int .i64)) s'/\H'=[s']):=fun u R w hs=>by
 have hlen:=(AR5 zs fun x y=>decide (x<=y)).length_eq;have hso:(zs.mergeSort fun x y=>decide (x<=y)).Pairwise fun x y=>x<=y:=by
  have h:=List.pairwise_mergeSort (le:=fun x y:Int=>decide (x<=y)) (fun a b c h1 h2=>by simp only [Am9]at*;omega) (fun a b=>by simp only [AG7,Am9];omega) zs;simpa only [Am9]using h
 rcases hr with⟨rfl,h0,rfl⟩|⟨g,cap,cur,z,rfl,rfl,hle,hcm,hcs,htk,hfr⟩
 · have hx:zs=[]:=by simpa using h0
   subst hx;refine (Tryz.slices_Sort_int_none none 0 w).mono ?_;rintro e w' ⟨rfl,rfl⟩;exact .inl ⟨_,[[]],V,⟨[],[],V,.refl _,.nil,by simp [G5],V⟩,hs⟩
 · rw [zH]at hle htk⊢
   have hs1:Sat u ([(g,.cells cur 3 z)]::R) w:=by simpa using hs
   have hb:=hs1.get (g,.cells cur 3 z) Ap0;have hH:=Sg hb Ao7 hfr htk
   refine (Tryz.slices_Sort_int g 0 cap zs w hH (zw.1 hb).1 Ao7).mono ?_;rintro e w' ⟨rfl,n,os,rfl⟩;refine .inl ⟨_,[[(g,.cells (putCells (Value.int .i64) 0 (zs.mergeSort fun x y=>decide (x<=y)).toArray cur) 3 z)]],V,⟨_,_,V,AR5 _ _,hso,?_,V⟩,by simpa using hs1.sorted (n:=n) _ os⟩;refine .inr ⟨g,cap,_,z,by rw [zH,hlen],rfl,by rw [zH,hlen];exact hle,hcm,by rw [Lu];exact hcs,?_,by rw [Lu];exact hfr⟩;rw [zH];exact XN _ _ Ao7
theorem bT(mi:Nat):BR Tryz.prog 114 #[.map (some mi)] [] (fun r H'=>∃b,r= .func (.func 189) #[] #[I5 b]/\H'=[[(b,.cells #[.map (some mi)] 213 (0,0))]]):=by
 refine Se func114 ntmps114 [0] ?_;intro u R;refine Zq<|Zg<|Ze (Bx #[_]) ?_;rintro _ _ ⟨b,rfl,rfl⟩;refine Za Y<|Z0<|Zx<|Zq<|Zg<|Zv (Bb (vs:=[]) (us:=[_]) Y Y)<|Za Y<|Z0<|Zx<|AC<|AL V results114 Y (by exact ⟨b,V,V⟩)
variable{es:Array MapEntry}{ck:Nat}{lm:List (Int×Value)}
theorem bU(hm:Ce (fun n:Int=>(Value.int .i64) n) es ck lm)(b mi:Nat):K4 Tryz.prog 189 #[I5 b] [[(b,.cells #[.map (some mi)] 213 (0,0))]] (fun _ s=>(mi,Obj.map es ck)∈s) (fun x:Int=>#[I4 x]) (MH lm) (fun ys=>ys.Perm (lm.map (·.1))):=by
 intro l J hA hy s hJ;refine Se func189 ntmps189 [0,1] ?_;intro u R;refine Zq<|Zg<|Zl isAgg213 Y ?_;refine Ze (Ko underlying213 Y (F6 Wo (hA _ s hJ))) ?_;rintro _ _ ⟨ib,rfl,rfl⟩;refine Z0<|Zx<|AO<|Zb [0,5] ?_;refine BI (e0:=[]) (fun m e H=>∃(js:List Nat) (seen:Array Nat) (s:List A8),m=lm.length -js.length/\(IQ es js seen/\J ((D5 lm js).map (·.1)) s)/\e=[]/\H=[[(ib,.mapIter (some mi) ck seen ck)],s]) (by exact ⟨[],#[],s,V,⟨Jt _,hJ⟩,V,V⟩) Wp ?_;rintro _ _ _ ⟨js,seen,s,rfl,⟨hit,hJ⟩,rfl,rfl⟩;have hjl:=El es.size js hit.nodup hit.lt
 rw [hm.size]at hjl;refine Zq<|Zg<|Ze (Mt hm hit Y Wo (F6 Wo (hA _ s hJ))) ?_;rintro _ _ hnx;rcases hnx with⟨hdone,rfl,rfl⟩|⟨jn,pn,seen2,hpn,hjn,hi2,rfl,rfl⟩
 ·
  refine Zd Y V<|Z0<|Zx<|Zq<|AR Y (fun hb=>?_) (fun hb=>?_)
  ·
   cases hb
  refine BG<|Zt<|Zt<|AX<|Cj V results189 (by exact ⟨_,s,hdone.map _,V,hJ⟩)
 refine Zd Y V<|Z0<|Zx<|Zq<|AR Y (fun hb=>?_) (fun hb=>?_)
 ·
  have hjl2:=El es.size (js++[jn]) hi2.nodup hi2.lt;rw [hm.size,zG,zU]at hjl2;have hla:(js++[jn]).length=js.length+1:=by rw [zG];rfl
  have hpr:MH lm ((D5 lm js).map (·.1)++[pn.1]):=by
   have h:=Rq (l:=lm) hi2.nodup (fun j hj=>by rw [<-hm.size];exact hi2.lt j hj);rw [FY lm js hpn,zK]at h;exact h
  have hyk:=hy ((D5 lm js).map (·.1)) pn.1 s hpr hJ;refine AJ<|Zx<|AO<|Zq<|Zg ?_;have hmi:=hA _ s hJ
  refine CW (cs:=[(ib,.mapIter (some mi) ck seen2 ck),(mi,.map es ck)]) (by simp [hmi]) (Ir hm hi2 hpn Y) V rfl ?_;refine Zd Y V<|Za Y<|Z0<|Zx<|Zq<|Zg<|Zm Y<|Zm Y<|Ze (Fz (vs:=[_]) Y Y (hyk) Wp) ?_;rintro _ _ ⟨_,⟨s',rfl,rfl,hJ'⟩,rfl⟩;rw [show(D5 lm js).map (·.1)++[pn.1]=(D5 lm (js++[jn])).map (·.1) by rw [FY lm js hpn,zK];rfl]at hJ';refine Zv (Br Y)<|Z0<|Zx<|AR Y (fun hb=>?_) (fun hb=>?_)
  ·
   cases hb
  refine AJ<|A9<|Zn [0,5] ?_;refine Ad (e':=[]) (by exact ⟨js++[jn],seen2,s',V,⟨hi2,hJ'⟩,V,V⟩)
 cases hb
variable{M:List A8}
theorem QZ(hm:Ce (fun n:Int=>(Value.int .i64) n) es ck lm)(hn:lm.length<=1000000)(b mi:Nat)(hmi:(mi,Obj.map es ck)∈M):BR Tryz.prog 247 #[.slice none 0 0,.func (.func 189) #[] #[I5 b]] [[(b,.cells #[.map (some mi)] 213 (0,0))],M] (fun r H'=>∃(zs:List Int) (s':List A8),zs.Perm (lm.map (·.1))/\Row 3 r (zs.map (Value.int .i64)) s'/\H'=[M,s']):=by
 have hml:=mL;refine Cz func247 V ntmps247 V ?_;intro u R;refine Zb [0,1] ?_;refine Zq<|Zg<|Ze (Bx #[_]) ?_;rintro _ _ ⟨bs,rfl,rfl⟩;refine Za Y<|Z0<|Zx<|Zq<|Zq<|Zg<|Zm Y<|Z0<|Zx<|AO<|Zb [2,6] ?_;refine BV<|Ia (H0:=_) (R:=_) (I:=(fun(pre:List Int) H=>∃v2 s2,H=[[(bs,.cells #[v2] 36 (0,0))],s2,M]/\Row 3 v2 (pre.map (Value.int .i64)) s2)) (E:=fun x e Hn=>e=[(5,I4 x),(7,I4 x)]/\Hn=[]) rfl Y call189 (bU hm b mi) (fun pre H1 c d h=>by obtain ⟨v2,s2,rfl,_⟩:=h;simp [hmi]) Y rfl Wp (⟨_,[],rfl,G5 _⟩) ?ha_2 ?hbd_2 ?hk_2
 case ha_2=>
  intro _ x _ _;refine Zg<|Za Y<|Z0<|LQ (e:=[(5,_),(7,_)]) (Hn:=[]) ?_;exact ⟨V,V⟩
 case hbd_2=>
  intro l pre x u e9 Hn9 H1 R1 r9 hxs hI hE9;obtain ⟨rfl,rfl⟩:=hE9;obtain ⟨v2,s2,rfl,hr⟩:=hI;have hpl:=hxs.len
  obtain ⟨gv,cv,rfl⟩:=hr.form;refine AO<|Zg<|Zl Am4 Y ?_;refine Zm Y<|Ze (Af (vs:=[_]) (cs:=[_]) AV0 AU1 AX6 Y V rfl V rfl V) ?_;rintro _ _ ⟨b2,rfl,rfl⟩;refine Ze (EF (by_:=8) (news:=[_]) AV0 (V:Tryz.prog.info? 3=some Tryz.t3) V rfl V rfl Y hr Y Wo Wh Ap1 V Ap5 Ao9 (by(simp only [zH];omega)) (by(simp only [zH];omega))) ?_;rintro _ _ ⟨sq,hrq,rfl⟩;obtain ⟨gq,cq,rfl⟩:=hrq.form;refine Xe (Zs Al8 Y Y V) ?_;refine Z0<|A9<|Ej rfl (by exact ⟨_,_,rfl,by rw [zK];exact hrq⟩)
 intro D1 ys H2 hfl hI2;obtain ⟨v2,s2,rfl,hr⟩:=hI2;refine Zn [2] ?_;refine A9<|Zx<|Zq<|Zg<|Zl Am4 Y ?_;refine Za Y<|Z0<|Zx<|AC<|Fq V (aN results247 Y) Wo (by exact ⟨ys,s2,hfl,hr,V⟩)
theorem Tw(hm:Ce (fun n:Int=>(Value.int .i64) n) es ck lm)(hn:lm.length<=1000000)(b mi:Nat)(hmi:(mi,Obj.map es ck)∈M):BR Tryz.prog 187 #[.func (.func 189) #[] #[I5 b]] [[(b,.cells #[.map (some mi)] 213 (0,0))],M] (fun r H'=>∃(zs:List Int) (s':List A8),zs.Perm (lm.map (·.1))/\Row 3 r (zs.map (Value.int .i64)) s'/\H'=[M,s']):=by
 refine Se func187 ntmps187 [0] ?_;intro u R;refine Zq<|Zg<|Za Y<|Z0<|Zx<|Zq<|Zg<|Zm Y<|Zc [_,_] Y call247 Y V (QZ hm hn b mi hmi) ?_;rintro _ _ ⟨_,⟨zs,s2,hp,hr,rfl⟩,rfl⟩;refine Za Y<|Z0<|Zx<|AC<|AL V results187 Y (by exact ⟨zs,s2,hp,hr,V⟩)
theorem VS(hm:Ce (fun n:Int=>(Value.int .i64) n) es ck lm)(hn:lm.length<=1000000)(b mi:Nat)(hmi:(mi,Obj.map es ck)∈M):BR Tryz.prog 113 #[.func (.func 189) #[] #[I5 b]] [[(b,.cells #[.map (some mi)] 213 (0,0))],M] (fun r H'=>∃(zs:List Int) (s':List A8),zs.Perm (lm.map (·.1))/\(zs.Pairwise fun x y=>x<=y)/\Row 3 r (zs.map (Value.int .i64)) s'/\H'=[M,s']):=by
 refine Se func113 ntmps113 [0] ?_;intro u R;refine Zq<|Zg<|Za Y<|Z0<|Zx<|Zq<|Zg<|Zm Y<|Zc [_] Y call187 Y V (Tw hm hn b mi hmi) ?_;rintro _ _ ⟨_,⟨zs,s2,hp,hr,rfl⟩,rfl⟩;have hzl:=hp.length_eq
 rw [zH]at hzl;refine Za Y<|Z0<|Zx<|Zq<|Zg<|Zm Y<|Zc [_] Y call188 Y V (aA hr Ao7) ?_;rintro _ _ ⟨_,⟨zs2,s3,rfl,hp2,hso,hr3,rfl⟩,rfl⟩;refine Z0<|Zx<|Zq<|Zg<|Zm Y<|Za Y<|Z0<|Zx<|AC<|AL V results113 Y (by exact ⟨zs2,s3,hp2.trans hp,hso,hr3,V⟩)
end Go.Proofs.YteaiajghbkenoaaGreatDoor
