/- statetree: Verify. -/
/- What Prove returns is complete, right, and about the rows of the range: in plain words. -/
/- The integers that a law picks; the rows of a log. -/
/- The fixed example of the law of chapter 10: its rows, and its digests. -/
/- sane of the law of chapter 10. -/
/- proof.Make, for queries that are not joins. -/
/- proof.Start on what Make returns, for queries that are not joins. -/
/- What Start makes of proofs; what Make returns; proofs in memory. -/
/- proof.Make, for all queries. -/
/- proof.Start on any proofs of which something follows. -/
/- slices.Clone of proofs and records; proof.Build. -/
import Derived.Test.YteaiajghbkenoaaGreatDoorEz
import Derived.Test.YteaiajghbkenoaaGreatDoorTr8
import Derived.Test.YteaiajghbkenoaaGreatDoorQe1
import Derived.Test.YteaiajghbkenoaaGreatDoorTr6
import Derived.Test.YteaiajghbkenoaaGreatDoorEx36
set_option linter.unusedVariables false
set_option linter.unusedSimpArgs false
namespace Go.Proofs.YteaiajghbkenoaaGreatDoor
open Go.Proofs.Tryz
open Go Go.RowKit Gw
set_option maxRecDepth 100000
attribute [local irreducible] Gw.At Gw.Nx Gw.Ops
structure ov(root:Bs)(x:RP):Prop where
 comp:GY x
 n16:x.roots.length=16
 np:x.paths.length=x.rows.length
 root:Dh x.roots=root
 sum:∃d:Bs,d.length=32/\x.roots[4*x.tb.toNat+x.cl.toNat]?=some (Tv x.ct++d)/\(x.ct=0->d=Dh [])/\
  (x.ct≠0->∀(k:Nat) (r:AU) (pf:List Bs),x.rows[k]?=some r->x.paths[k]?=some pf->rh d x.ct.toNat (x.fi.toNat+k) (QE r) pf=true)
noncomputable instance(root:Bs)(x:RP):Decidable (ov root x):=Classical.propDecidable _
theorem Tf{m:AU->Bool}:∀{l:List AU} {i:Nat} {x:AU},i<CY m l->l[i]?=some x->m x=false
 |[],i,x,_,hx=>by simp at hx
 |z::l,i,x,hi,hx=>by
  unfold CY at hi;rw [ON]at hi;by_cases hz:m z=true
  · rw [AH (by simp [hz])]at hi;simp at hi
  · have g:m z=false:=by simpa using hz
    rw [AK (by simp [g])]at hi;rcases i with _|i
    · simp at hx;rw [<-hx];exact g
    · simp only [aE]at hx
      exact Tf (l:=l) (by unfold CY;simp at hi;omega) hx
theorem QC{g:AU->Bool}:∀{l:List AU} {x:AU},l[CY g l]?=some x->g x=true
 |[],x,hx=>by simp at hx
 |z::l,x,hx=>by
  unfold CY at hx;rw [ON]at hx;by_cases hz:g z=true
  · rw [AH (by simp [hz])]at hx;simp at hx;rw [<-hx];exact hz
  · have m:g z=false:=by simpa using hz
    rw [AK (by simp [m])]at hx;simp only [DE,aE]at hx;exact QC (l:=l) hx
def ltV(c:Nat)(a b:AU):Prop:=Dc a c<Dc b c\/Dc a c=Dc b c/\a.k<b.k
variable{rs:List AU}
theorem Sy(g:BP rs)(t:Int)(c:Nat):(BG rs t c).Pairwise (ltV c):=by
 have m:=Ei g t c (-1000000000) 1000000000;have h2:(rs.filter (inR t c (-1000000000) 1000000000)).Pairwise (fun a b=>a.k≠b.k):=(Q7 g fun r h=>j4 h).imp (fun h=>by omega)
 have B:(Dm rs t c (-1000000000) 1000000000).Pairwise (fun a b=>a.k≠b.k):=((EO rs t c (-1000000000) 1000000000).pairwise_iff (fun h=>h.symm)).2 h2;exact (m.and B).imp (fun{a b} h=>by unfold ltV;obtain ⟨G,I⟩:=h;unfold leV at G;omega)
variable{j i:Nat}
theorem yF{l:List AU}{R:AU->AU->Prop}(h:l.Pairwise R){a b:AU}(g:i<j)(m:l[i]?=some a)(B:l[j]?=some b):R a b:=by
 obtain ⟨hi,rfl⟩:=BE.1 m;obtain ⟨G,rfl⟩:=BE.1 B;exact dq.1 h i j hi G g
variable{t:Int}{c:Nat}
theorem Yp(G:BP rs){a b:AU}(m:i<=j)(B:(BG rs t c)[i]?=some a)(g:(BG rs t c)[j]?=some b):Dc a c<=Dc b c:=by
 rcases Nat.eq_or_lt_of_le m with rfl|h
 · rw [B]at g;injection g with g;rw [g];exact Xs _
 · have:=yF (Sy G t c) h B g
   unfold ltV at this;omega
theorem ig(G:BP rs)(t c:Nat)(lo:Int){r:AU}(g:(BG rs (t:Int) c)[i]?=some r):(CY (geV c lo) (BG rs (t:Int) c)<=i->lo<=Dc r c)/\(i<CY (geV c lo) (BG rs (t:Int) c)->Dc r c<lo):=by
 constructor
 · intro h
   have B:=(BE.1 g).1;have m:(BG rs (t:Int) c)[CY (geV c lo) (BG rs (t:Int) c)]?=some _:=B4 A1
   have I:=HP (QC m);have h2:=Yp G h m g
   omega
 · intro h
   have:=cH (Tf h g);omega
theorem jA(G:BP rs)(t c:Nat)(hi:Int){r:AU}(g:(BG rs (t:Int) c)[i]?=some r):(CY (gtV c hi) (BG rs (t:Int) c)<=i->hi<Dc r c)/\(i<CY (gtV c hi) (BG rs (t:Int) c)->Dc r c<=hi):=by
 constructor
 · intro h
   have B:=(BE.1 g).1;have m:(BG rs (t:Int) c)[CY (gtV c hi) (BG rs (t:Int) c)]?=some _:=B4 A1
   have I:=HP (QC m);have h2:=Yp G h m g
   omega
 · intro h
   have:=cH (Tf h g);omega
theorem Te(g:BP rs)(t c:Nat)(lo hi:Int)(B:lo<=hi):CY (geV c lo) (BG rs (t:Int) c)<=CY (gtV c hi) (BG rs (t:Int) c):=by
 rcases EV (CY (gtV c hi) (BG rs (t:Int) c)) (CY (geV c lo) (BG rs (t:Int) c))with h|h
 · have I:=Gr (geV c lo) (BG rs (t:Int) c)
   have m:(BG rs (t:Int) c)[CY (gtV c hi) (BG rs (t:Int) c)]?=some _:=B4 A1;have G:=(jA g t c hi m).1 (CT _)
   have h2:=(ig g t c lo m).2 h;omega
 · exact h
theorem OI{l:List AU}{f m:Nat}{r:AU}(h:((l.drop f).take m)[j]?=some r):j<m/\l[f+j]?=some r:=by
 rw [H3]at h;split at h
 · rw [OR]at h;exact ⟨by assumption,h⟩
 · cases h
theorem iU{r:AU}(h:r∈BG rs t c):r∈rs/\r.t=t:=by
 have:=F1.1 ((EO rs t c _ _).mem_iff.1 h);exact ⟨this.1,j4 this.2⟩
theorem NU(m:BP rs)(t c:Nat)(lo hi:Int)(g:lo<=hi):Bp (BG rs (t:Int) c) c lo<=toT (BG rs (t:Int) c) c hi/\toT (BG rs (t:Int) c) c hi<=(BG rs (t:Int) c).length/\(0<(BG rs (t:Int) c).length->Bp (BG rs (t:Int) c) c lo<toT (BG rs (t:Int) c) c hi):=by
 have B:=Te m t c lo hi g;have h2:=Gr (geV c lo) (BG rs (t:Int) c)
 have G:=Gr (gtV c hi) (BG rs (t:Int) c);unfold Bp toT;omega
theorem kH(m:BP rs)(t c:Nat)(lo hi:Int)(g:lo<=hi):(Ej rs t c lo hi).rows.length=toT (BG rs (t:Int) c) c hi -Bp (BG rs (t:Int) c) c lo:=by
 have:=NU m t c lo hi g;show(((BG rs (t:Int) c).drop _).take _).length=_
 rw [C2,C3];omega
theorem Nt(B:BP rs)(hn:rs.length<=2000)(O:∀r∈rs,r.ok)(t c:Nat)(ht:t<=3)(hc:c<=3)(lo hi:Int)(m:lo<=hi):GY (Ej rs t c lo hi):=by
 have h1:=Te B t c lo hi m;have h2:=Gr (geV c lo) (BG rs (t:Int) c)
 have h3:=Gr (gtV c hi) (BG rs (t:Int) c);have h4:=NU B t c lo hi m
 have I:=kH B t c lo hi m;have ax:=JB B (t:Int) c
 have hf:Bp (BG rs (t:Int) c) c lo=CY (geV c lo) (BG rs (t:Int) c) -1:=rfl;have bn:toT (BG rs (t:Int) c) c hi=min (CY (gtV c hi) (BG rs (t:Int) c)+1) (BG rs (t:Int) c).length:=rfl
 have hv:∀r:AU,Bl r ((c:Nat):Int)=Dc r c:=fun r=>LG r c hc;refine ⟨⟨⟨?_,?_⟩,?_,?_⟩,m,⟨?_,?_⟩,⟨?_,?_⟩,?_,?_,?_,?_,?_⟩
 · show(0:Int)<=(t:Int);omega
 · show(t:Int)<4;omega
 · show(0:Int)<=(c:Int);omega
 · show(c:Int)<4;omega
 · show(0:Int)<=((BG rs (t:Int) c).length:Int);omega
 · show((BG rs (t:Int) c).length:Int)<=2000;omega
 · show(0:Int)<=((Bp (BG rs (t:Int) c) c lo:Nat):Int);omega
 · show((Bp (BG rs (t:Int) c) c lo:Nat):Int)<=((BG rs (t:Int) c).length:Int);omega
 · rw [I];show _<=((BG rs (t:Int) c).length:Int) -((Bp (BG rs (t:Int) c) c lo:Nat):Int);omega
 · rw [I];intro h0;show((BG rs (t:Int) c).length:Int)=0;omega
 · intro j r G
   obtain ⟨X,g⟩:=OI G;have W:=iU (DG g)
   have K:=ig B t c lo g;have J:=jA B t c hi g
   refine ⟨⟨O r W.1,W.2,?_,?_⟩,?_⟩
   · intro h;change Bl r (c:Int)<lo at h;rw [hv]at h;omega
   · intro h;change hi<Bl r (c:Int)at h;rw [hv]at h;rw [I];omega
   · intro af q hq
     obtain ⟨_,U⟩:=OI hq;have:=yF (Sy B (t:Int) c) A1 U g
     unfold UD;show Bl q (c:Int)<Bl r (c:Int)\/Bl q (c:Int)=Bl r (c:Int)/\q.k<r.k
     rw [hv,hv];exact this
 · intro r G
   obtain ⟨_,g⟩:=OI G;have K:=ig B t c lo g
   show((Bp (BG rs (t:Int) c) c lo:Nat):Int)=0\/Bl r (c:Int)<lo;rw [hv];omega
 · intro r G
   rw [I]at G⊢;obtain ⟨X,g⟩:=OI G;have J:=jA B t c hi g
   show((Bp (BG rs (t:Int) c) c lo:Nat):Int)+_=((BG rs (t:Int) c).length:Int)\/hi<Bl r (c:Int);rw [hv];omega
theorem dA(G:BP rs)(W:rs.length<=2000)(K:∀r∈rs,r.ok)(t c:Nat)(X:t<=3)(hc:c<=3)(lo hi:Int)(m:lo<=hi):EN (Ej rs t c lo hi)=(BG rs (t:Int) c).filter (inR (t:Int) c lo hi):=by
 have J:=Nt G W K t c X hc lo hi m;have h4:=NU G t c lo hi m
 have hf:Bp (BG rs (t:Int) c) c lo=CY (geV c lo) (BG rs (t:Int) c) -1:=rfl;have af:toT (BG rs (t:Int) c) c hi=min (CY (gtV c hi) (BG rs (t:Int) c)+1) (BG rs (t:Int) c).length:=rfl
 have hv:∀r:AU,Bl r ((c:Nat):Int)=Dc r c:=fun r=>LG r c hc;rw [cZ J];show(((BG rs (t:Int) c).drop (Bp (BG rs (t:Int) c) c lo)).take (toT (BG rs (t:Int) c) c hi -Bp (BG rs (t:Int) c) c lo)).filter _=_
 have e:BG rs (t:Int) c=(BG rs (t:Int) c).take (Bp (BG rs (t:Int) c) c lo)++(((BG rs (t:Int) c).drop (Bp (BG rs (t:Int) c) c lo)).take (toT (BG rs (t:Int) c) c hi -Bp (BG rs (t:Int) c) c lo)++(BG rs (t:Int) c).drop (toT (BG rs (t:Int) c) c hi)):=by
  have e1:(BG rs (t:Int) c).drop (toT (BG rs (t:Int) c) c hi)=((BG rs (t:Int) c).drop (Bp (BG rs (t:Int) c) c lo)).drop (toT (BG rs (t:Int) c) c hi -Bp (BG rs (t:Int) c) c lo):=by
   rw [XS];congr 1;omega
  rw [e1,Hx,Hx]
 conv=>rhs;rw [e]
 rw [HU,HU];have z1:((BG rs (t:Int) c).take (Bp (BG rs (t:Int) c) c lo)).filter (inR (t:Int) c lo hi)=[]:=by
  rw [j0];intro r B I;obtain ⟨i,g⟩:=GW B;rw [H3]at g;split at g
  · have:=(ig G t c lo g).2 A1
    have:=HP I;omega
  · cases g
 have z2:((BG rs (t:Int) c).drop (toT (BG rs (t:Int) c) c hi)).filter (inR (t:Int) c lo hi)=[]:=by
  rw [j0];intro r B I;obtain ⟨i,g⟩:=GW B;rw [OR]at g;have O:=(BE.1 g).1
  have:=(jA G t c hi g).1 A1;have:=HP I
  omega
 rw [z1,z2,KK,Cp];refine fm ?_;intro r B;have U:=iU (I0 (Nd B))
 unfold inB inR;show decide (lo<=Bl r (c:Int)/\Bl r (c:Int)<=hi)=_
 rw [hv];exact decide_eq_decide.2 ⟨fun h=>⟨U.2,h⟩,fun h=>h.2⟩
theorem tK(B:BP rs)(m:∀r∈rs,r.ok)(t c:Nat)(W:t<=3)(hc:c<=3)(lo hi:Int)(J:lo<=hi):(BG rs (t:Int) c).filter (inR (t:Int) c lo hi)=Dm rs (t:Int) c lo hi:=by
 refine VE B ?_ ?_
 · have g:=(EO rs (t:Int) c (-1000000000) 1000000000).filter (inR (t:Int) c lo hi)
   refine g.trans ?_;rw [List.filter_filter];refine List.Perm.of_eq (fm ?_);intro r K;obtain ⟨⟨g,h2,G⟩,O,U⟩:=m r K;unfold inV at g h2 G;have I:-1000000000<=Dc r c/\Dc r c<=1000000000:=by
    unfold Dc;split
    · omega
    · split
      · omega
      · split<;>omega
   unfold inR;rw [<-Bool.decide_and];exact decide_eq_decide.2 ⟨fun h=>h.1,fun h=>⟨h,h.1,I⟩⟩
 · exact (Ei B (t:Int) c (-1000000000) 1000000000).filter _
theorem S9(B:BP rs)(I:rs.length<=2000)(m:∀r∈rs,r.ok)(t c:Nat)(G:t<=3)(hc:c<=3)(lo hi:Int)(g:lo<=hi):EN (Ej rs t c lo hi)=Dm rs (t:Int) c lo hi:=by rw [dA B I m t c G hc lo hi g,tK B m t c G hc lo hi g]
def CJ(c:Int)(n:Nat):Nat:=((if c<0 then-(c+1)else c).tmod n).toNat
theorem EE(c:Int)(n:Nat)(B:0<n):CJ c n<n:=by
 unfold CJ;have g:0<=(if c<0 then-(c+1)else c):=by split<;>omega
 have h2:=Int.tmod_lt_of_pos (if c<0 then-(c+1)else c) (b:=(n:Int)) A1;have m:=Int.tmod_nonneg (n:Int) g
 omega
theorem YW(c:Int)(n:Nat):(if c<0 then-(c+1)else c).tmod n=(CJ c n:Int):=by
 unfold CJ;have g:0<=(if c<0 then-(c+1)else c):=by split<;>omega
 have m:=Int.tmod_nonneg (n:Int) g;omega
theorem vg{c:Chg}{x:AU}(h:x∈EH rs c):x∈rs\/(c.has=true/\x=⟨c.t,c.k,c.n⟩):=by
 unfold EH at h;rcases B9.1 h with h|h
 · rcases B9.1 h with h|h
   · exact .inl (Nd h)
   · exact .inr (Lm.1 h)
 · exact .inl (I0 (I0 h))
theorem xM{c:Chg}(h:c.ok)(g:c.has=true):AU.ok ⟨c.t,c.k,c.n⟩:=by
 obtain ⟨_,h2,_⟩:=h;rw [Kr g]at h2;exact HS.1 fun m=>h2 (.inr ⟨g,m⟩)
theorem VG:∀(cs:List Chg) (rs:List AU),(∀r∈rs,r.ok)->(∀c∈cs,c.ok)->∀r∈DL rs cs,r.ok
 |[],rs,h,_=>h
 |c::cs,rs,h,hc=>by
  have B:∀r∈EH rs c,r.ok:=fun r m=>by
   rcases vg m with m|⟨hh,rfl⟩
   · exact h r m
   · exact xM (hc c B0) hh
  exact VG cs (EH rs c) B (fun c g=>hc c (by simp [g]))
variable{l:List BU}
theorem F5.rowsOk(h:F5 l):∀i,i<=l.length->∀r∈Bd (l.take i),r.ok
 |0,_=>by intro r g;simp [Bd]at g
 |i+1,hi=>by
  obtain ⟨r,g⟩:∃r,l[i]?=some r:=⟨_,B4 A1⟩;rw [Bh g,Gc];refine VG _ _ (F5.rowsOk h i A1) fun c hc=>?_;obtain ⟨j,m⟩:=GW hc;exact (h i r g).1.ok.all j c m
variable{M:List A9}{p:Option Addr}{cap n:Nat}
theorem oL{xs:List (List Int)}(h:WC M (.slice p n cap) xs)(k:Nat)(G:k<=n):WC M (.slice p k cap) (xs.take k):=by
 obtain ⟨J,g,e,I,B⟩:=h;injection e with e1 e2 e3
 subst e1 e2 e3;have m:(xs.take k).length=k:=by rw [C2];exact PB G
 refine ⟨p,cap,by rw [m],by omega,fun i z hz=>B i z ?_⟩;rw [H3]at hz;split at hz
 · exact hz
 · cases hz
def cs0:List Chg:=[⟨0,3,false,V3.zero,true,⟨10,0,0⟩⟩,⟨0,5,false,V3.zero,true,⟨10,21,30⟩⟩]
def l0(gc:Nat):List BU:=[⟨1,some ⟨gc,0,none⟩,2,cs0⟩]
def RP.cut(x:RP):RP:=⟨x.tb,x.cl,x.lo,x.hi,x.ct,x.fi,x.rows.drop 1,x.paths.drop 1,x.roots⟩
variable{v:Value}{x:RP}
theorem yf(hv:Xl M v x)(h:GY x){l:List AU}(G:EN x=l):Ba prog 218 #[v] [M] (fun r H'=>∃B m,r= .tuple #[B,.bool true]/\Bc 5 83 B l.length (Ae l) m/\H'=[m,M]):=by
 have g:=ji hv;rw [DA h,G]at g;exact g
variable{M':List A9}
theorem Xl.mono(h:Xl M v x)(g:∀c∈M,c∈M'):Xl M' v x:=by
 obtain ⟨I,G,J,e,m,h2,B⟩:=h;exact ⟨I,G,J,e,m.mono g,h2.mono g,B.mono g⟩
theorem SX:∀(n:Nat) (l:List Bs) (i:Nat),l.length<=n->(FD l i).length<=l.length
 |n,l,i,hn=>by
  rcases EV l.length 2 with h|h
  · rw [VI A1];simp
  · have m:=Ov h
    have h2:=Ou l.length
    match n,hn with
    |0,hn=>omega
    |n+1,hn=>
    by_cases hi:i<DX l.length
    · have g:=SX n (l.take (DX l.length)) i (by rw [C2];omega)
      rw [C2]at g;rw [QY h hi,B7];simp only [E0];omega
    · have g:=SX n (l.drop (DX l.length)) (i -DX l.length) (by rw [C3];omega)
      rw [C3]at g;rw [Oc h hi,B7];simp only [E0];omega
theorem YT(m:BP rs)(B:rs.length<=2000)(t c:Nat)(lo hi:Int):∀l∈(Ej rs t c lo hi).paths,l.length<=1000000:=by
 intro l h;obtain ⟨x,_,rfl⟩:=Bk.1 h;have g:=SX _ (Nq (BG rs (t:Int) c)) (Bp (BG rs (t:Int) c) c lo+x) (CT _)
 have h2:=JB m (t:Int) c;rw [GL]at g;omega
theorem yT(q:QM)(m:BI q):BJ prog 178 #[.agg q.A17] [] (.tuple #[I4 q.tb,I4 q.cl,I4 q.lo,I4 q.hi]):=by
 refine Se func178 ntmps178 [0] ?_;intro u R;refine A0<|Ze (Bx q.A17)<|AD fun bq=>Za Y<|Za Y<|Za Y<|A3 Y<|Zq<|A0<|Zo Wh (AA (cs:=#[_,_,_,_,_,_,_]) Dg C7 Y As AM) ?_;refine Xr [_] Y call34 Y V (JW q) ?_;refine Zv (DD Y)<|A4<|AV Y (fun g=>?_) (fun g=>?_)
 ·
  exfalso;simp [m]at g
 refine AC<|Zx<|Zq<|Az (n:=12) (0::1::0::4::0::16::0::64::3::271::831::2047::[]) 0 A6 A6 V<|A2 0 V (AB (off:=1) C6 V rfl A5 Y)<|B3 1 V AE Y ?_;refine A2 2 V (AB (off:=2) C6 V rfl A5 Y)<|B3 3 V AE Y ?_;refine A2 4 V (AB (off:=3) C6 V rfl A5 Y)<|B3 5 V AE Y ?_;refine A2 6 V (AB (off:=4) C6 V rfl A5 Y)<|B3 7 V AE Y ?_;refine A2 8 V (Aw Y)<|A2 9 V (Aw Y)<|A2 10 V (Aw Y)<|A2 11 V (Aw Y)<|Ai<|Zn [2,3,4,5] ?_;refine Zx<|AJ<|iV V results178 Y Y Y Y (by exact ⟨V,V⟩)
theorem oA(q:QM)(g:BI q):BJ prog 104 #[.agg q.A17] [] (.agg #[I4 q.tb,I4 q.cl,I4 q.lo,I4 q.hi]):=by
 refine Se func104 ntmps104 [0] ?_;intro u R;refine A0<|Ze (Bx q.A17)<|AD fun bq=>Ze (Al iS #[_,_,_,_])<|AD fun m=>A4<|A0<|Zo Wh (AA (cs:=#[_,_,_,_,_,_,_]) Dg C7 Y As AM) ?_;refine Xr [_] Y call178 Y V (yT q g) ?_;refine Zm Y<|Zd Y V<|Zd Y V<|Zd Y V<|Zd Y V<|Zh 0 N2 V rfl A5 Y<|Xe (Zs A5 Y Y V (hi:=by decide)) ?_;refine Zh 1 N2 V rfl A5 Y<|Xe (Zs A5 Y Y V (hi:=by(simp;done))) ?_;refine Zh 2 N2 V rfl A5 Y<|Xe (Zs A5 Y Y V (hi:=by(simp;done))) ?_;refine Zh 3 N2 V rfl A5 Y<|Xe (Zs A5 Y Y V (hi:=by(simp;done))) ?_;refine Z0<|Zn [2] ?_;refine Zx<|A0<|Zo Wh (AA (cs:=#[_,_,_,_]) isAgg202 cC Y As (by exact BN V)) ?_;refine Xe (BM cC Y Y HR Wu (by exact EJ rfl) E7 As (by exact BA _)) ?_;refine A4<|AJ<|Ct V results104 Y Wh (Ak isAgg202 cC Wn (BN V)) (by exact ⟨V,V⟩)
theorem UL{P:Program}{env:Env}{d:Option Nat}{ty:TypeId}{pos:String}{af:Array Edge}{g:Option (Nat×Bool)}{x:Operand}{m at_:TypeId}{ok:Bool}{r:Value}(G:∀a,ev a env x=v)(B:∀w:World,(Instr.typeAssert v m at_ ok).run P w= .ok r w):OpP P ⟨d,.typeAssert x m at_ ok,ty,pos,af,g⟩ env [] r:=fun a w _=>by
 simp [execOp,G a,B w]
theorem z8(w:World):(Instr.typeAssert .nilIface 20 101 true).run prog w= .ok (.tuple #[.nilIface,.bool false]) w:=by kernel_rfl
theorem ZR{u w:World}{H:Hp}{b:Nat}{o:Obj}(h:Has b o H)(g:Sat u H w):w.heap[b]?=some o:=g.get _ h.mem
variable{q:QM}
theorem mI(m:BI q)(g:q.kd≠7):IP q (Dm rs q.tb q.cl.toNat q.lo q.hi) []=Ci rs q:=by
 rw [P8 m];unfold Ci FN CQ;split
 · rfl
 · split
   · rfl
   · split
     · rfl
     · split
       · rfl
       · first
         |rfl
         |(split
           · rename_i h;exact absurd h g
           · rfl)
theorem yZ(G:BP rs)(B:rs.length<=2000)(g:∀r∈rs,r.ok)(q:QM)(I:BI q):GY (Ej rs q.tb.toNat q.cl.toNat q.lo q.hi)/\EN (Ej rs q.tb.toNat q.cl.toNat q.lo q.hi)=Dm rs q.tb q.cl.toNat q.lo q.hi:=by
 obtain ⟨J,h2,m,_⟩:=id I;refine ⟨Nt G B g q.tb.toNat q.cl.toNat A1 A1 q.lo q.hi m.2.1,?_⟩;have h:=S9 G B g q.tb.toNat q.cl.toNat A1 A1 q.lo q.hi m.2.1
 rwa [show((q.tb.toNat:Nat):Int)=q.tb by omega]at h
theorem pY(g:BI q):(Ej rs q.tb.toNat q.cl.toNat q.lo q.hi).tb=q.tb/\(Ej rs q.tb.toNat q.cl.toNat q.lo q.hi).cl=q.cl/\(Ej rs q.tb.toNat q.cl.toNat q.lo q.hi).lo=q.lo/\(Ej rs q.tb.toNat q.cl.toNat q.lo q.hi).hi=q.hi:=by
 obtain ⟨m,h2,_⟩:=id g;exact ⟨show((q.tb.toNat:Nat):Int)=q.tb by omega,show((q.cl.toNat:Nat):Int)=q.cl by omega,V,V⟩
theorem KI:BJ prog 159 #[.bool true] [] undef:=by
 refine Se func159 ntmps159 [0] ?_;intro u R;refine A0<|Zm Y<|Zv (Br Y)<|A4<|AV Y (fun g=>by cases g)<|fun g=>AC<|Cv V results159 (by exact ⟨V,V⟩)
theorem xP(pk:Value):PP prog 158 #[pk] .returning .returning [] (fun H'=>H'=[]):=by
 refine Y7 (env1:=[(3,.bool false),(2,.nilIface),(8,.bool false),(7,.nilIface),(4,.tuple #[.nilIface,.bool false]),(6,.tuple #[.nilIface,.bool false]),(5,.nilIface),(0,pk)]) func158 V ntmps158 V results158 ?hrec_1 ?hwalk_1
 case hrec_1=>
  intro u R c cs Q m G;show nX _ _ [0,1,2,3,4,5,6] _ _ _ _ _
  have g:({c with mode:= .returning}:Frame)=c:=by cases c;simp only at m;subst m;rfl
  rw [g]at G;refine dx V (by simp [recoverD,m]) V ?_;refine Q6 V (UL Y z8) V ?_;refine Q6 V (AQ Y) V ?_;refine Q6 V (Bw Y V) V ?_;refine Q6 V (Bw Y V) V ?_;refine Q6 V (Aw Y) V ?_;refine Q6 V (Aw Y) V ?_;intro a w I;exact G a w I
 intro u R;refine Zb [0,2,3] ?_;refine A0<|Zm Y<|Zm Y<|Af (t:=10) Y V (fun B=>by cases B)<|fun B=>A7 Y V<|A7 Y V<|A7 Y V<|Zv (AL Y Y)<|A4<|D5 Y<|AC<|Cv V results158 AM
theorem yP(g:Nat)(B:Value):PP prog 157 #[I5 g,B] .returning .returning [[(g,.cells #[.bool true] 4 (0,0))]] (fun H'=>H'=[[(g,.cells #[.bool true] 4 (0,0))]]):=by
 refine aP func157 V ntmps157 V ?_;intro u R;refine Zb [0,1] ?_;refine A0<|Zl E4 Y ?_;refine Zv (Br Y)<|A4<|AV Y (fun m=>by cases m)<|fun m=>AC<|Cv V results157 AM
structure RPZ where
 x:RP
 qr:Option Addr
 cr:Nat
 qp:Option Addr
 cp:Nat
 qt:Option Addr
 ct:Nat
def Ee(z:RPZ):List Value:=[I4 z.x.tb,I4 z.x.cl,I4 z.x.lo,I4 z.x.hi,I4 z.x.ct,I4 z.x.fi,.slice z.qr z.x.rows.length z.cr,.slice z.qp z.x.paths.length z.cp,.slice z.qt z.x.roots.length z.ct]
def RPZ.ok(M:List A9)(z:RPZ):Prop:=E8 M (.slice z.qr z.x.rows.length z.cr) z.x.rows/\M9 M (.slice z.qp z.x.paths.length z.cp) z.x.paths/\EU M (.slice z.qt z.x.roots.length z.ct) z.x.roots
theorem yY(h:Xl M v x):∃z:RPZ,z.x=x/\z.ok M/\v= .agg #[I4 z.x.tb,I4 z.x.cl,I4 z.x.lo,I4 z.x.hi,I4 z.x.ct,I4 z.x.fi,.slice z.qr z.x.rows.length z.cr,.slice z.qp z.x.paths.length z.cp,.slice z.qt z.x.roots.length z.ct]:=by
 obtain ⟨K,J,O,rfl,g,h2,m⟩:=h;obtain ⟨qr,cr,rfl,B⟩:=id g;obtain ⟨qp,cp,rfl,G⟩:=id h2;obtain ⟨qt,ct,rfl,I⟩:=id m;exact ⟨⟨x,qr,cr,qp,cp,qt,ct⟩,V,⟨g,h2,m⟩,V⟩
theorem RPZ.ok.mono{z:RPZ}(h:z.ok M)(g:∀c∈M,c∈M'):z.ok M':=⟨h.1.mono g,h.2.1.mono g,h.2.2.mono g⟩
theorem RPZ.ok.rp{z:RPZ}(h:z.ok M):Xl M (.agg #[I4 z.x.tb,I4 z.x.cl,I4 z.x.lo,I4 z.x.hi,I4 z.x.ct,I4 z.x.fi,.slice z.qr z.x.rows.length z.cr,.slice z.qp z.x.paths.length z.cp,.slice z.qt z.x.roots.length z.ct]) z.x:=⟨_,_,_,rfl,h⟩
def ZsU(M:List A9)(v:Value)(Z:List RPZ):Prop:=∃p cap,v= .slice p Z.length cap/\(Z.length<=maxLen/\Z.length<=cap)/\∀(i:Nat) (z:RPZ),Z[i]?=some z->z.ok M/\∃g off cur T zz,p=some ⟨g,off,none⟩/\(g,Obj.cells cur T zz)∈M/\off+i*9+9<=cur.size/\cur.extract (off+i*9) (off+i*9+9)=#[I4 z.x.tb,I4 z.x.cl,I4 z.x.lo,I4 z.x.hi,I4 z.x.ct,I4 z.x.fi,.slice z.qr z.x.rows.length z.cr,.slice z.qp z.x.paths.length z.cp,.slice z.qt z.x.roots.length z.ct]
def Fj(M:List A9)(v:Value)(L:List RP):Prop:=∃Z,ZsU M v Z/\Z.map RPZ.x=L
variable{Z:List RPZ}
theorem ZsU.mono(h:ZsU M v Z)(m:∀c∈M,c∈M'):ZsU M' v Z:=by
 obtain ⟨p,cap,e,K,J⟩:=h;refine ⟨p,cap,e,K,fun i z hz=>?_⟩;obtain ⟨h2,g,off,cur,T,zz,B,G,I⟩:=J i z hz;exact ⟨h2.mono m,g,off,cur,T,zz,B,m _ G,I⟩
variable{L:List RP}
theorem Fj.mono(h:Fj M v L)(m:∀c∈M,c∈M'):Fj M' v L:=by
 obtain ⟨Z,g,h2⟩:=h;exact ⟨Z,g.mono m,h2⟩
variable{s:List A9}
theorem WH{B:List A9}(h:Bc 9 152 v Z.length (Z.flatMap Ee) s)(J:Z.length<=maxLen)(I:∀z∈Z,z.ok B):ZsU (s++B) v Z:=by
 obtain ⟨b,cap,rfl⟩:=h.form;refine ⟨b,cap,V,⟨J,Es h⟩,fun i z hz=>⟨(I z (DG hz)).mono (fun c hc=>G1 _ hc),?_⟩⟩;obtain ⟨g,G,cur,zz,hv,rfl,K,m⟩:=Ju h i (BE.1 hz).1;injection hv with hv1 hv2 hv3
 refine ⟨g,0,cur,152,zz,hv1,DS _ (BT.2 V),by omega,?_⟩;rw [D2];apply HI.1;rw [m];exact Iq _ 9 (fun _=>rfl) Z i z hz
theorem oW{g:List A9}(h:Bc 9 152 v Z.length (Z.flatMap Ee) s)(B:Z.length<=maxLen)(m:∀z∈Z,z.ok g):Fj (s++g) v (Z.map RPZ.x):=⟨Z,WH h B m,rfl⟩
theorem Fj.form(h:Fj M v L):∃p cap,v= .slice p L.length cap/\L.length<=maxLen/\L.length<=cap:=by
 obtain ⟨Z,⟨p,cap,e,g,_⟩,rfl⟩:=h;rw [B2];exact ⟨p,cap,e,g⟩
theorem Fj.at{M:List A9}{p:Option Addr}{n cap:Nat}{L:List RP}(h:Fj M (.slice p n cap) L){i:Nat}{x:RP}(m:L[i]?=some x):∃z:RPZ,z.x=x/\z.ok M/\∃g off cur T zz,p=some ⟨g,off,none⟩/\(g,Obj.cells cur T zz)∈M/\off+i*9+9<=cur.size/\cur.extract (off+i*9) (off+i*9+9)=#[I4 z.x.tb,I4 z.x.cl,I4 z.x.lo,I4 z.x.hi,I4 z.x.ct,I4 z.x.fi,.slice z.qr z.x.rows.length z.cr,.slice z.qp z.x.paths.length z.cp,.slice z.qt z.x.roots.length z.ct]:=by
 obtain ⟨Z,⟨I,B,e,_,G⟩,rfl⟩:=h;injection e with e1 e2 e3
 subst e1;rw [DH]at m;cases hz:Z[i]?with
 |none=>rw [hz]at m;cases m
 |some z=>
  rw [hz]at m;injection m with m
  exact ⟨z,m,G i z hz⟩
theorem Fj.tail(h:Fj M (.slice p n cap) (x::L)):Fj M (.slice (ET p 1 cap 9) (n -1) (cap -1)) L:=by
 obtain ⟨Z,⟨X,J,e,⟨I,m⟩,G⟩,B⟩:=h;injection e with e1 e2 e3
 subst e1 e2 e3
 match Z,B,I,m,G with
 |z::Z,B,I,m,G=>
  injection B with hZ1 hZ2
  rw [DE]at I m;refine ⟨Z,⟨_,_,by rw [DE,RE],⟨by omega,by omega⟩,fun i y K=>?_⟩,hZ2⟩;obtain ⟨h2,g,off,cur,T,zz,rfl,O,W,U⟩:=G (i+1) y (by simpa using K);have hi:=(BE.1 K).1
  refine ⟨h2,g,off+1*9,cur,T,zz,?_,O,by omega,by rw [show off+1*9+i*9=off+(i+1)*9 by omega];exact U⟩;unfold ET;rw [AH A1,Mz,CU]
def Wx(q:QM)(r:AU):Int×Int×Int×Int:=(q.ot,0,Bl r q.bq,Bl r q.bq)
def YA(q:QM):Int×Int×Int×Int:=(q.tb,q.cl,q.lo,q.hi)
def RP.scan(x:RP):Int×Int×Int×Int:=(x.tb,x.cl,x.lo,x.hi)
noncomputable def Ob(s:Int×Int×Int×Int):List RP->Option (List AU×List RP)
 |[]=>none
 |x::l=>if x.scan=s/\GY x then some (EN x,l)else none
noncomputable def Eh(q:QM):List AU->List RP->Option (List AU×List RP)
 |[],l=>some ([],l)
 |r::rs,l=>(Ob (Wx q r) l).bind fun a=>(Eh q rs a.2).map fun b=>(a.1++b.1,b.2)
noncomputable def EX(q:QM)(L:List RP):Option CF:=
 if BI q then(Ob (YA q) L).bind fun a=>if a.1.length<=100 then(if q.kd=7 then Eh q a.1 a.2 else some ([],a.2)).bind fun b=>if b.2=[]then some (FN q a.1 b.1)else none else none else none
theorem SF{s:Int×Int×Int×Int}{a:List AU×List RP}(h:Ob s L=some a):∃x,L=x::a.2/\x.scan=s/\GY x/\a.1=EN x:=by
 unfold Ob at h;split at h
 · cases h
 · split at h
   · rename_i x l h9
     injection h with h
     subst h;exact ⟨x,V,h9.1,h9.2,V⟩
   · cases h
theorem VA{s:Int×Int×Int×Int}{l:List RP}(g:x.scan=s)(h2:GY x):Ob s (x::l)=some (EN x,l):=AK ⟨g,h2⟩
theorem Lb{r:AU}{l:List RP}{b:List AU×List RP}(h:Eh q (r::rs) l=some b):∃a c,Ob (Wx q r) l=some a/\Eh q rs a.2=some c/\b=(a.1++c.1,c.2):=by
 unfold Eh at h;cases ha:Ob (Wx q r) l with
 |none=>rw [ha]at h;cases h
 |some a=>
  rw [ha,I2]at h;cases hc:Eh q rs a.2 with
  |none=>rw [hc]at h;cases h
  |some c=>rw [hc]at h;injection h with h;exact ⟨a,c,rfl,hc,h.symm⟩
theorem Oa{q:QM}:∀(rows:List AU) (i:Nat) (L:List RP) (b:List AU×List RP),i<=rows.length->Eh q rows L=some b->∃o g,Eh q (rows.take i) L=some (o,g)/\∃m,Eh q (rows.drop i) g=some (m,b.2)/\b.1=o++m
 |rows,0,L,b,_,h=>⟨[],L,rfl,b.1,by rw [PC];exact h,rfl⟩
 |r::rows,i+1,L,b,hi,h=>by
  obtain ⟨a,c,B,h2,rfl⟩:=Lb h;obtain ⟨o,g,G,m,I,J⟩:=Oa rows i a.2 c (by simpa using hi) h2;refine ⟨a.1++o,g,?_,m,by rw [List.drop_succ_cons];exact I,by rw [J,CA]⟩;rw [jj];unfold Eh;rw [B,I2,G];rfl
theorem QW{q:QM}:∀(rows:List AU) (i:Nat) (r:AU) (L l':List RP) (o:List AU) (a:List AU×List RP),rows[i]?=some r->Eh q (rows.take i) L=some (o,l')->Ob (Wx q r) l'=some a->Eh q (rows.take (i+1)) L=some (o++a.1,a.2)
 |r9::rows,0,r,L,l',o,a,hr,h,ha=>by
  injection hr with hr
  subst hr;injection h with h
  injection h with g h2
  subst g h2;show Eh q [r9] L=_
  unfold Eh;rw [ha,I2];show some (a.1++[],a.2)=some ([]++a.1,a.2)
  rw [Cp,KK]
 |r9::rows,i+1,r,L,l',o,a,hr,h,ha=>by
  rw [jj]at h⊢;obtain ⟨G,B,g,h2,m⟩:=Lb h;injection m with m h4
  have:=QW rows i r G.2 B.2 B.1 a (by simpa using hr) h2 (by rw [<-h4];exact ha);unfold Eh;rw [g,I2,this,m,CA];rfl
variable{r:CF}
theorem QP(h:EX q L=some r):∃x g,L=x::g/\BI q/\x.scan=YA q/\GY x/\(EN x).length<=100/\((q.kd≠7/\g=[]/\r=FN q (EN x) [])\/(q.kd=7/\∃o,Eh q (EN x) g=some (o,[])/\r=FN q (EN x) o)):=by
 unfold EX at h;split at h
 · rename_i hq
   cases ha:Ob (YA q) L with
   |none=>rw [ha]at h;cases h
   |some a=>
    obtain ⟨x,m,h2,B,G⟩:=SF ha;rw [ha,I2]at h;split at h
    · rename_i h5
      rw [G]at h5 h;refine ⟨x,a.2,m,hq,h2,B,h5,?_⟩;split at h
      · rename_i h7
        cases hb:Eh q (EN x) a.2 with
        |none=>rw [hb]at h;cases h
        |some b=>
         rw [hb,I2]at h;split at h
         · rename_i h8
           injection h with h
           exact .inr ⟨h7,b.1,by rw [<-h8],h.symm⟩
         · cases h
      · rename_i h7
        rw [I2]at h;split at h
        · rename_i h8
          injection h with h
          exact .inl ⟨h7,h8,h.symm⟩
        · cases h
    · cases h
 · cases h
def Ff(rs:List AU)(q:QM):List RP:=Ej rs q.tb.toNat q.cl.toNat q.lo q.hi::(if q.kd=7 then(CQ rs q).map fun r=>Ej rs q.ot.toNat 0 (Bl r q.bq) (Bl r q.bq)else [])
theorem SE{rs:List AU}(B:BP rs)(m:rs.length<=2000)(g:∀r∈rs,r.ok){q:QM}(J:0<=q.ot/\q.ot<=3):∀l:List AU,Eh q l (l.map fun r=>Ej rs q.ot.toNat 0 (Bl r q.bq) (Bl r q.bq))=some (l.flatMap fun r=>Dm rs q.ot 0 (Bl r q.bq) (Bl r q.bq),[])
 |[]=>rfl
 |r::l=>by
  have e:((q.ot.toNat:Nat):Int)=q.ot:=by omega
  have G:=Nt B m g q.ot.toNat 0 A1 A1 (Bl r q.bq) (Bl r q.bq) (Xs _);have h2:=S9 B m g q.ot.toNat 0 A1 A1 (Bl r q.bq) (Bl r q.bq) (Xs _)
  have I:=SE B m g J l;rw [e]at h2;unfold Eh;rw [DO,VA (by show(((q.ot.toNat:Nat):Int),((0:Nat):Int),_,_)=(_,_,_,_);rw [e];rfl) G,I2];simp only [I,h2,Mz,HH]
theorem mO{f:AU->Bool}{g:AU->List AU}{y:AU}(G:∀a b,f a=true->f b=true->(∃r,a∈g r)->(∃r,b∈g r)->a=b):∀l:List AU,(∃r∈l,y∈g r)->f y=true->(l.flatMap g).find? f=some y:=fun l ⟨r,I,m⟩ h=>by
 cases hfi:(l.flatMap g).find? f with
 |none=>exact absurd h (by simpa using k8.1 hfi y (RT.2 ⟨r,I,m⟩))
 |some x=>
  have B:=ke (p:=f) hfi;obtain ⟨K,_,J⟩:=RT.1 (iu hfi);rw [G x y B h ⟨K,J⟩ ⟨r,m⟩]
theorem bT(G:BP rs)(hn:rs.length<=2000)(J:∀r∈rs,r.ok)(m:BI q)(hl:(CQ rs q).length<=100):EX q (Ff rs q)=some (Ci rs q):=by
 have hk:=m.2.2.2;have hc:=m.2.1
 have ht:=m.1;obtain ⟨U,h2⟩:=yZ G hn J q m;have O:=pY (rs:=rs) m
 have ax:(Ej rs q.tb.toNat q.cl.toNat q.lo q.hi).scan=YA q:=by unfold RP.scan YA;rw [O.1,O.2.1,O.2.2.1,O.2.2.2]
 unfold EX Ff;rw [AK m,VA ax U,I2];simp only [h2];rw [show Dm rs q.tb q.cl.toNat q.lo q.hi=CQ rs q from rfl,AK hl];by_cases B:q.kd=7
 · rw [AK B,AK B,SE G hn J A1,I2,AK rfl]
   unfold Ci FN;simp only [AH (show¬q.kd=3 by omega),AH (show¬q.kd=4 by omega),AH (show¬q.kd=5 by omega),AH (show¬q.kd=6 by omega),AK B];congr 2;unfold Ig;have g:∀k x,x∈Dm rs q.ot 0 k k↔x∈rs/\x.t=q.ot/\x.k=k:=fun k x=>by
    rw [(EO rs q.ot 0 k k).mem_iff,F1];unfold inR Dc;rw [G2,AK rfl];constructor
    · rintro ⟨a,b,c,d⟩;exact ⟨a,b,by omega⟩
    · rintro ⟨a,b,c⟩;exact ⟨a,b,by omega,by omega⟩
   have af:∀r∈CQ rs q,Ie q ((CQ rs q).flatMap fun r=>Dm rs q.ot 0 (Bl r q.bq) (Bl r q.bq)) r=Ie q (IC rs q.ot) r:=fun r hr=>by
    unfold Ie
    suffices e:DZ q ((CQ rs q).flatMap fun r=>Dm rs q.ot 0 (Bl r q.bq) (Bl r q.bq)) (Bl r q.bq)=DZ q (IC rs q.ot) (Bl r q.bq) by rw [e]
    cases hp:DZ q (IC rs q.ot) (Bl r q.bq)with
    |none=>
     unfold DZ;refine k8.2 fun x K I=>?_;obtain ⟨r',_,K⟩:=RT.1 K;have W:=(g _ x).1 K
     have X:x.t=q.ot/\x.k=Bl r q.bq:=by simpa using I
     have:=(Fe G (q:=q) (Bl r q.bq) x).2 ⟨W.1,X⟩;rw [hp]at this;cases this
    |some x=>
     have I:=(Fe G (q:=q) (Bl r q.bq) x).1 hp;unfold DZ;refine mO (fun a b ha hb ⟨r1,U⟩ ⟨r2,h2⟩=>?_) _ ⟨r,hr,(g _ x).2 ⟨I.1,I.2⟩⟩ (DA I.2);have a1:=(g _ a).1 U
     have b1:=(g _ b).1 h2;have a2:a.t=q.ot/\a.k=Bl r q.bq:=by simpa using ha
     have b2:b.t=q.ot/\b.k=Bl r q.bq:=by simpa using hb
     have a3:=(Fe G (q:=q) (Bl r q.bq) a).2 ⟨a1.1,a2⟩;have b3:=(Fe G (q:=q) (Bl r q.bq) b).2 ⟨b1.1,b2⟩
     rw [a3]at b3;injection b3
   have:∀l:List AU,(∀r∈l,Ie q ((CQ rs q).flatMap fun r=>Dm rs q.ot 0 (Bl r q.bq) (Bl r q.bq)) r=Ie q (IC rs q.ot) r)->l.flatMap (Ie q ((CQ rs q).flatMap fun r=>Dm rs q.ot 0 (Bl r q.bq) (Bl r q.bq)))=l.flatMap (Ie q (IC rs q.ot)):=fun l=>by
    induction l with
    |nil=>intro _;rfl
    |cons r l ih=>intro h;rw [HH,HH,h r B0,ih fun x K=>h x (by simp [K])]
   exact this _ af
 · rw [AH B,AH B,I2,AK rfl]
   rw [<-mI m B,P8 m];rfl
theorem vv(v:Value)(p:Int)(rs:List AU)(s:List A9)(hv:RA v p rs s)(O:BP rs)(K:rs.length<=2000)(B:∀r∈rs,r.ok)(t c lo hi:Int)(U:0<=t/\t<=3)(hc:0<=c/\c<=3)(m:lo<=hi)(g:TypeId)(G:Nat×Nat):
 Ba prog 103 #[v,I4 t,I4 c,I4 lo,I4 hi] [[(4,.cells (En.map Co).toArray g G)],s] (fun r H'=>∃(z:RPZ) (mem:List A9),z.x=Ej rs t.toNat c.toNat lo hi/\z.ok mem/\r= .tuple #[.agg #[I4 z.x.tb,I4 z.x.cl,I4 z.x.lo,I4 z.x.hi,I4 z.x.ct,I4 z.x.fi,.slice z.qr z.x.rows.length z.cr,.slice z.qp z.x.paths.length z.cp,.slice z.qt z.x.roots.length z.ct],I4 0]/\H'=[mem,[(4,.cells (En.map Co).toArray g G)],s]):=by
 have h:=dK v p rs s hv O K B t.toNat c.toNat A1 A1 lo hi m g G;rw [show((t.toNat:Nat):Int)=t by omega,show((c.toNat:Nat):Int)=c by omega]at h;refine h.mono ?_;rintro r H' ⟨W,mem,rfl,J,rfl⟩;obtain ⟨z,I,h2,rfl⟩:=yY J;exact ⟨z,mem,I,h2,V,V⟩
theorem xm(Z:List RPZ):∀u∈Z.flatMap Ee,u.oneCell'=true:=by
 intro u g;obtain ⟨z,_,h⟩:=RT.1 g;unfold Ee at h;simp only [D0,RM,SD]at h;rcases h with rfl|rfl|rfl|rfl|rfl|rfl|rfl|rfl|rfl<;>rfl
theorem zT(Z:List RPZ):(Z.flatMap Ee).length=Z.length*9:=by
 induction Z with
 |nil=>rfl
 |cons z Z ih=>rw [HH,B7,ih,DE];show 9+_=_;omega
theorem Si(q:QM)(g:0<=q.bq/\q.bq<=3)(r:AU):BJ prog 106 #[.agg q.A17,.agg r.A16] [] (.agg #[I4 q.ot,I4 0,I4 (Bl r q.bq),I4 (Bl r q.bq)]):=by
 refine Se func106 ntmps106 [0,1] ?_;intro u R;refine A0<|Ze (Bx q.A17)<|AD fun bq=>Ze (Bx #[_,_,_,_,_])<|AD fun B=>Ze (Al iS #[_,_,_,_])<|AD fun m=>A4<|A0<|Zo Wh (AA (cs:=#[_,_,_,_,_]) CH AW Y As (by exact BN V)) ?_;refine Zh 5 C6 V rfl A5 Y<|Zl AE Y ?_;refine Xr [_,_] Y S7 Y V (Fs r q.bq g) ?_;refine A3 Y<|A0<|Zh 6 C6 V rfl A5 Y<|Zl AE Y ?_;refine Zm Y<|Zm Y<|Zv (BK (vs:=[(0,_),(1,_),(2,_),(3,_)]) (cs:=#[_,_,_,_]) Y (AY (pl:=#[(0,1),(1,1),(2,1),(3,1)]) iS N2 (fun _=>by kernel_rfl) rfl))<|Xe (BM cC Y Y (by(simp [Value.oneCell',Value.cells];done)) Wu (by exact EJ rfl) E7 AN (by exact BA _)) ?_;refine Z0<|Zn [4] ?_;refine Zx<|AJ<|Ct V results106 Y Wh (Ak isAgg202 cC Wn (BN V)) (by exact ⟨V,V⟩)
theorem xw(v:Value)(p:Int)(rs:List AU)(s:List A9)(hv:RA v p rs s)(hs:BP rs)(hn:rs.length<=2000)(X:∀r∈rs,r.ok)(t B lo hi:Int)(ht:0<=t/\t<=3)(hc:0<=B/\B<=3)(W:lo<=hi)(I:TypeId)(zg:Nat×Nat)(K J:Nat){g:Option Addr}{G:List A9}(af:Bc 9 152 (.slice g Z.length c) Z.length (Z.flatMap Ee) G)(hZ:Z.length<=1000000):Ba prog 102 #[.agg #[I4 t,I4 B,I4 lo,I4 hi],I5 K,I5 J] [[(4,.cells (En.map Co).toArray I zg)],s,[(K,.cells #[v] 131 (0,0))],[(J,.cells #[.slice g Z.length c] 41 (0,0))],G] (fun r H'=>r=undef/\∃(z:RPZ) (mem:List A9) (g:Option Addr) (c:Nat) (G:List A9),z.x=Ej rs t.toNat B.toNat lo hi/\z.ok mem/\Bc 9 152 (.slice g (Z.length+1) c) (Z.length+1) ((Z++[z]).flatMap Ee) G/\H'=[mem,G,[(4,.cells (En.map Co).toArray I zg)],s,[(K,.cells #[v] 131 (0,0))],[(J,.cells #[.slice g (Z.length+1) c] 41 (0,0))]]):=by
 have d9:=mL;obtain ⟨sp,mb,es,ck,lm,rfl,cO⟩:=id hv;refine Se func102 ntmps102 [0,1,2] ?_;intro u R;refine A0<|Ze (Bx #[_,_,_,_])<|AD fun bx=>A4<|A0<|Zl isAgg131 Y ?_;refine Zh 0 N2 V rfl A5 Y<|Zl AE Y ?_;refine Zh 1 N2 V rfl A5 Y<|Zl AE Y ?_;refine Zh 2 N2 V rfl A5 Y<|Zl AE Y ?_;refine Zh 3 N2 V rfl A5 Y<|Zl AE Y ?_;refine Zc [_,_,_,_,_] Y call103 Y V (vv _ p rs s hv hs hn X t B lo hi ht hc W I zg) ?_;rintro _ _ ⟨_,⟨z,mem,bn,ax,rfl,rfl⟩,rfl⟩;refine Zm Y<|Zd Y V<|Zd Y V<|Ze (Al bm #[_,_,_,_,_,_,_,_,_])<|AD fun bp=>Xe (Xw Kf #[I4 z.x.tb,I4 z.x.cl,I4 z.x.lo,I4 z.x.hi,I4 z.x.ct,I4 z.x.fi,.slice z.qr z.x.rows.length z.cr,.slice z.qp z.x.paths.length z.cp,.slice z.qt z.x.roots.length z.ct]) ?_;refine AG Y<|Zn [2,4] ?_;refine Zx<|Zg<|Zl S8 Y ?_;refine Zo Wh (AA (cs:=#[_,_,_,_,_,_,_,_,_]) cE Kf Y As AM) ?_;refine Ze (Ah (vs:=[_]) (cs:=[_,_,_,_,_,_,_,_,_]) To Kf bm Y V rfl V rfl V)<|AD fun gb=>Ze (BQ (by_:=120) (sz:=9) To (V:Tryz.prog.info? 152=some Tryz.t152) V rfl V rfl Y (af) Y (DJ 9 gb 1 1 152 (0,0) (Ee z) V) Wo Wo (by have:=xm [z];simpa using this) A1 A1) ?_;rintro _ _ ⟨cu,m,rfl⟩;obtain ⟨U,O,rfl⟩:=m.form;refine Xe (Zs Mb Y Y V (hi:=by(simp;done))) ?_;refine Z0<|Cv rfl results102 (by exact ⟨rfl,z,mem,U,O,cu,bn,ax,BR m rfl (by rw [OK];simp),rfl⟩)
set_option maxHeartbeats 1000000 in
theorem ym(v:Value)(p:Int)(rs:List AU)(s:List A9)(hv:RA v p rs s)(hs:BP rs)(hn:rs.length<=2000)(gy:∀r∈rs,r.ok)(q:QM)(hq:BI q)(hl:(CQ rs q).length<=100)(Tg:TypeId)(zg:Nat×Nat):Ba prog 50 #[v,.agg q.A17] [[(4,.cells (En.map Co).toArray Tg zg)],s] (fun w H'=>∃vo mem,w= .tuple #[vo,I4 0]/\Fj mem vo (Ff rs q)/\H'=[mem,[(4,.cells (En.map Co).toArray Tg zg)],s]):=by
 have qj:=mL;obtain ⟨sp,mb,es,ck,lm,rfl,q9⟩:=id hv;have d9:=hq.2.1
 have p8:=@SG rs q.tb q.cl.toNat q.lo q.hi;have o8:0<=q.bq/\q.bq<=3:=by have:=hq.2.2.2;omega
 have o9:0<=q.ot/\q.ot<=3:=by have:=hq.2.2.2;omega
 refine Se func50 ntmps50 [0,1] ?_;intro u R;refine A0<|Ze (Bx #[_])<|AD fun bs=>Ze (Bx q.A17)<|AD fun bq=>Za Y<|A3 Y<|Zq<|AP<|A0<|Zl isAgg131 Y ?_;refine Zv (Be lE Y Y)<|A3 Y<|AV Y (fun cu=>by cases cu)<|fun cu=>A0<|Zo Wh (AA (cs:=#[_,_,_,_,_,_,_]) Dg C7 Y As AM) ?_;refine Xr [_] Y call34 Y V (JW q) ?_;refine Zv (DD Y)<|A3 Y<|AV Y (fun cO=>?_) (fun cO=>?_)
 ·
  exfalso;simp [hq]at cO
 refine AC<|A8<|Zx<|A0<|Ze (Al zeroValue41 #[_])<|AD fun bo=>A4<|A0<|Zv (Bg (vs:=[]) (us:=[_,_]) Y Y)<|AG Y<|Zn [2,3,6,7] ?_;refine Zx<|A0<|Zo Wh (AA (cs:=#[_,_,_,_,_,_,_]) Dg C7 Y As AM) ?_;refine Xr [_] Y call104 Y V (oA q hq) ?_;refine Ze (Al iS #[_,_,_,_])<|AD fun bx=>Xe (Xw cC #[I4 q.tb,I4 q.cl,I4 q.lo,I4 q.hi]) ?_;refine A4<|A0<|Zl isAgg131 Y ?_;refine Zh 0 N2 V rfl A5 Y<|Zl AE Y ?_;refine Zh 1 N2 V rfl A5 Y<|Zl AE Y ?_;refine Zh 2 N2 V rfl A5 Y<|Zl AE Y ?_;refine Zh 3 N2 V rfl A5 Y<|Zl AE Y ?_;refine Zc [_,_,_,_,_] Y call105 Y V (jc _ p rs s hv q.tb q.cl q.lo q.hi d9) ?_;rintro _ _ ⟨_,⟨s1,h1,rfl⟩,rfl⟩;rw [show Dm rs q.tb q.cl.toNat q.lo q.hi=CQ rs q from rfl]at h1 p8;obtain ⟨p1,c1,rfl⟩:=h1.form;obtain ⟨p7,pq,e7,⟨qb,pz⟩,l8⟩:=id (DT h1 A1);injection e7 with e71 e72 e73
 subst e71 e73;refine AG Y<|Zn [3,6,7,8,9] ?_;refine Zx<|Zq<|A0<|Zm Y<|Zv (Ab B6 Y)<|Zv (DF (n:=100) Y Y)<|A4<|Av Y (fun l5=>by omega)<|fun l5=>AC<|Zx<|Zq<|BV<|Zg<|Zm Y<|Zo Wh (AA (cs:=#[_,_,_,_]) isAgg202 cC Y As AM) ?_;refine Zc [_] Y call102 Y V (xw _ p rs s hv hs hn gy q.tb q.cl q.lo q.hi hq.1 d9 hq.2.2.1.2.1 Tg zg bs bo (Z:=[]) (Bf 9 _) (C0 _)) ?_;rintro _ _ ⟨_,⟨rfl,z0,F8,g0,c0,ax,j5,U,O,rfl⟩,rfl⟩;refine A4<|Zb [3,7,9,6] ?_;refine D7 (e0:=[(3,_),(7,_),(9,_)]) (H0:=[[(bo,.cells #[.slice g0 (([]:List RPZ).length+1) c0] 41 (0,0))],ax,F8]) (fun e H=>∃(Z:List RPZ) (g:Option Addr) (c:Nat) (I B:List A9),(Z.map RPZ.x=Ff rs q/\(∀z∈Z,z.ok B)/\Bc 9 152 (.slice g Z.length c) Z.length (Z.flatMap Ee) I/\Z.length<=1000)/\e=[]/\H=[[(bo,.cells #[.slice g Z.length c] 41 (0,0))],I,B]) Wp ?hx_1 ?hy_1
 case hx_1=>
  refine A0<|Zh 0 C6 V rfl A5 Y<|Zl AE Y ?_;refine Zv (CP Y Y)<|A4<|Av Y (fun af=>?_) (fun af=>?_)
  ·
   refine A0<|Zm Y<|Zv (Ab B6 Y)<|Zm Y<|A4<|AP<|Zb [43,3,6,7,41,42] ?_;refine BB (e0:=[(43,_)]) (fun m e H=>∃(k:Nat) (Z:List RPZ) (g:Option Addr) (c:Nat) (I B:List A9),m=(CQ rs q).length -k/\(k<=(CQ rs q).length/\Z.map RPZ.x=Ej rs q.tb.toNat q.cl.toNat q.lo q.hi::((CQ rs q).take k).map (fun r=>Ej rs q.ot.toNat 0 (Bl r q.bq) (Bl r q.bq))/\(∀z∈Z,z.ok B)/\Z.length=k+1/\Bc 9 152 (.slice g Z.length c) Z.length (Z.flatMap Ee) I)/\e=[(43,I4 (k:Int))]/\H=[[(bo,.cells #[.slice g Z.length c] 41 (0,0))],I,B]) (by exact ⟨0,[z0],g0,c0,ax,F8,rfl,⟨C0 _,by rw [HX,I3,LR,j5],fun z hz=>by rw [BT.1 hz];exact U,rfl,O⟩,rfl,rfl⟩) Wp ?_;rintro _ _ _ ⟨k,Z,g,c,I,B,rfl,⟨hk,G,J,bn,K⟩,rfl,rfl⟩;refine A0<|Zv (Au Y Y)<|A4<|Zq<|Av Y (fun gq=>?_) (fun gq=>?_)
   ·
    obtain ⟨X,ic⟩:∃X,(CQ rs q)[k]?=some X:=⟨_,B4 gq⟩;obtain ⟨g8,off,cur,T,zz,rfl,l9,qa,gm⟩:=l8 k X ic;refine AC<|Zx<|Zq<|AP<|A0<|BX (Ad B6 AW Y Y A1)<|CO (cs:=[(g8,.cells cur T zz)]) (by simp [l9]) (AA (cs:=X.A16) CH AW Y A1 gm) V rfl ?_;refine Ze (Al DP #[_,_,_,_,_])<|AD fun bx=>Xe (Xw AW X.A16) ?_;refine A4<|Zg<|Zm Y<|Zo Wh (AA (cs:=#[_,_,_,_,_,_,_]) Dg C7 Y As AM) ?_;refine Zo Wh (AA (cs:=#[_,_,_,_,_]) CH AW Y As AM) ?_;refine Xr [_,_] Y call106 Y V (Si q o8 X) ?_;refine Zc [_] Y call102 Y V (xw _ p rs s hv hs hn gy q.ot 0 (Bl X q.bq) (Bl X q.bq) o9 A1 (Xs _) Tg zg bs bo K A1) ?_;rintro _ _ ⟨_,⟨rfl,z5,W,g5,c5,pg,p9,kv,j3,rfl⟩,rfl⟩;refine Z0<|A8<|Zx<|CK (s1:=W) (s2:=B) Wo Wo ?_;refine Zg<|Ya (n:=1) Y Y<|Zm Y<|Z0<|Zn [43,3,6,7,41,42] ?_;refine Aa (e':=[(43,_)]) (by exact ⟨k+1,Z++[z5],g5,c5,pg,W++B,rfl,⟨by omega,by rw [BW,G,Bh ic,BW,LR,p9];rfl,fun z hz=>by rcases B9.1 hz with h9|h9;exact (J z h9).mono (fun c hc=>G1 _ hc);rw [BT.1 h9];exact kv.mono (fun c hc=>DS _ hc),by rw [B7,bn];rfl,by rw [B7];exact j3⟩,rfl,by rw [B7]⟩)
   have ek:k=(CQ rs q).length:=by omega
   subst ek;rw [FF]at G;refine Ay<|Zt<|Zt<|AR<|Zn [6] ?_;refine BL (e':=[]) (by exact ⟨Z,_,_,I,B,⟨by unfold Ff;rw [AK af];exact G,J,K,by omega⟩,rfl,rfl⟩)
  refine AC<|Zn [6] ?_;refine BL (e':=[]) (by exact ⟨[z0],g0,c0,ax,F8,⟨by unfold Ff;rw [AH af,LR,j5],fun z hz=>by rw [BT.1 hz];exact U,O,by simp⟩,rfl,rfl⟩)
 rintro _ _ ⟨Z,g,c,I,B,⟨G,J,K,bn⟩,rfl,rfl⟩;refine Zq<|CK (s1:=I) (s2:=B) Wo Wo ?_;refine Zg<|Zl S8 Y ?_;refine Za Y<|A3 Y<|AJ<|Cu rfl results50 Y Y (by exact ⟨.slice g Z.length c,I++B,rfl,by rw [<-G];exact oW K A1 J,rfl⟩)
set_option maxHeartbeats 1000000 in
theorem pI{p9:Option Addr}{m:Nat}(hL:Fj M (.slice p9 (L.length+1) m) (x::L))(G:GY x){c lo hi:Int}(B:x.scan=(t,c,lo,hi))(U:Nat):Ba prog 160 #[I5 U,.agg #[I4 t,I4 c,I4 lo,I4 hi]] [[(U,.cells #[.slice p9 (L.length+1) m] 245 (0,0))],M] (fun r H'=>∃O,Bc 5 83 r (EN x).length (Ae (EN x)) O/\H'=[O,[(U,.cells #[.slice (ET p9 1 m 9) L.length (m -1)] 245 (0,0))],M]):=by
 have cO:=mL;obtain ⟨p8,bn,e9,W,J⟩:=hL.form;injection e9 with e91 e92 e93
 subst e91 e93;rw [DE]at W J;obtain ⟨z,ax,af,g,off,cur,T,zz,rfl,X,cu,I⟩:=hL.at (i:=0) rfl;subst ax;unfold RP.scan at B;injection B with hd1 B
 injection B with hd2 B
 injection B with hd3 hd4
 refine Se func160 ntmps160 [0,1] ?_;intro u R;refine A0<|Ze (Bx #[_,_,_,_])<|AD fun bx=>A3 Y<|A0<|Zm Y<|Zp Y V<|Zh 0 eL V rfl Mb Y<|Zl S8 Y ?_;refine Zv (Ab To Y)<|Zv (DF (n:=0) Y Y) ?_;rw [DA (show(0:Nat)<L.length+1 by omega)];refine Xr [_] Y call159 Y V (KI) ?_;refine A4<|A0<|Zm Y<|Zp Y V<|Zh 0 eL V rfl Mb Y<|Zl S8 Y ?_;refine BX (Ad (j:=0) To Kf Y Y A1)<|CO (cs:=[(g,.cells cur T zz)]) (by simp [X]) (AA (cs:=#[I4 z.x.tb,I4 z.x.cl,I4 z.x.lo,I4 z.x.hi,I4 z.x.ct,I4 z.x.fi,.slice z.qr z.x.rows.length z.cr,.slice z.qp z.x.paths.length z.cp,.slice z.qt z.x.roots.length z.ct]) cE Kf Y A1 I) V rfl ?_;refine Ze (Al bm #[_,_,_,_,_,_,_,_,_])<|AD fun bp=>Xe (Xw Kf #[I4 z.x.tb,I4 z.x.cl,I4 z.x.lo,I4 z.x.hi,I4 z.x.ct,I4 z.x.fi,.slice z.qr z.x.rows.length z.cr,.slice z.qp z.x.paths.length z.cp,.slice z.qt z.x.roots.length z.ct]) ?_;refine Z0<|Zn [0,3,5] ?_;refine Zx<|A0<|Zm Y<|Zm Y<|Zp Y V<|Zh 0 eL V rfl Mb Y<|Zl S8 Y ?_;refine BX (C8 (l:=1) To Kf Y Y A1)<|Zp Y V<|Zh 0 eL V rfl Mb Y<|Xe (Zs Mb Y Y V (hi:=by(simp;done))) ?_;refine A4<|A0<|Zh 0 D4 V rfl A5 Y<|Zl AE Y (hv:=by exact (V:_=some (Value.int .i64 z.x.tb))) ?_;refine Zh 1 D4 V rfl A5 Y<|Zl AE Y (hv:=by exact (V:_=some (Value.int .i64 z.x.cl))) ?_;refine Zh 2 D4 V rfl A5 Y<|Zl AE Y (hv:=by exact (V:_=some (Value.int .i64 z.x.lo))) ?_;refine Zh 3 D4 V rfl A5 Y<|Zl AE Y (hv:=by exact (V:_=some (Value.int .i64 z.x.hi))) ?_;refine Zv (BK (vs:=[(0,I4 z.x.tb),(1,I4 z.x.cl),(2,I4 z.x.lo),(3,I4 z.x.hi)]) (cs:=#[I4 z.x.tb,I4 z.x.cl,I4 z.x.lo,I4 z.x.hi]) Y (AY (pl:=#[(0,1),(1,1),(2,1),(3,1)]) iS N2 (fun _=>by kernel_rfl) A6))<|Zo Wh (AA (cs:=#[I4 t,I4 c,I4 lo,I4 hi]) isAgg202 cC Y As AM) ?_;refine Zv (Yh A6 N2 A6 AN AN AN AN Cl AE Y Y) ?_;rw [DA (show z.x.tb=t/\z.x.cl=c/\z.x.lo=lo/\z.x.hi=hi from⟨hd1,hd2,hd3,hd4⟩)];refine Xr [_] Y call159 Y V (KI) ?_;refine Z0<|Zn [5] ?_
 refine Zx<|A0<|Zo Wh (AA (cs:=#[I4 z.x.tb,I4 z.x.cl,I4 z.x.lo,I4 z.x.hi,I4 z.x.ct,I4 z.x.fi,.slice z.qr z.x.rows.length z.cr,.slice z.qp z.x.paths.length z.cp,.slice z.qt z.x.roots.length z.ct]) cE Kf Y As AM) ?_;refine Zc [_] Y call218 Y V (yf af.rp G V) ?_;rintro _ _ ⟨_,⟨vr,O,rfl,K,rfl⟩,rfl⟩;obtain ⟨gr,c9,rfl⟩:=K.form;refine Zm Y<|Zd Y V<|Zd Y V<|Za Y<|A3 Y<|A0<|Zm Y<|Xr [_] Y call159 Y V (KI) ?_;refine A4<|A0<|Zm Y<|A3 Y<|AJ<|AO V results160 Y (by exact ⟨O,K,V⟩)
theorem OW(h:GY x):(EN x).length<=2000/\∀r∈EN x,r.ok:=by
 have B:=h.ct;have h2:=h.fi
 have G:=h.n;rw [cZ h];refine ⟨by have:=Mu (inB x) x.rows;omega,fun r m=>?_⟩;obtain ⟨j,g⟩:=GW (F1.1 m).1;exact (h.all j r g).1.1
theorem fT{α:Type}{l:List α}{k:Nat}{x:α}(h:l[k]?=some x):l.drop k=x::l.drop (k+1):=by
 obtain ⟨g,rfl⟩:=BE.1 h;exact R0 g
set_option maxHeartbeats 1000000 in
theorem WV(hL:Fj M v L)(q:QM)(hr:EX q L=some r):Ba prog 90 #[.agg q.A17,v] [M] (fun w H'=>∃rv sr,w= .tuple #[.agg #[rv,I4 r.val,.bool r.fnd],.bool true]/\Bc 5 83 rv r.rows.length (Ae r.rows) sr/\H'=[sr,M]):=by
 have sM:=mL;obtain ⟨x,L2,rfl,hq,qj,K,pg,J⟩:=QP hr;obtain ⟨pv,cv,rfl,_⟩:=hL.form;rw [DE]at hL;rw [DE];have hT:=hL.tail
 rw [RE]at hT;have q9:0<=q.bq/\q.bq<=3:=by have:=hq.2.2.2;omega
 refine DK func90 V ntmps90 V ?_;intro u R;refine Zb [0,1] ?_;refine A0<|Ze (Bx q.A17)<|AD fun bq=>Ze (Al G4 #[_,_,_])<|AD fun bo=>Ze (Al Up #[_])<|AD fun bk=>A4<|A0<|Zv (Bg (vs:=[]) (us:=[_,_]) Y Y)<|kW V Y ?_;refine A4<|A0<|Xe (Zs CD Y Y V (hi:=by decide)) ?_;refine A4<|A0<|dw V Y ?_;refine A4<|A0<|Zo Wh (AA (cs:=#[_,_,_,_,_,_,_]) Dg C7 Y As AM) ?_;refine Xr [_] Y call34 Y V (JW q) ?_;rw [DA hq];refine Xr [_] Y call159 Y V (KI) ?_;refine A4<|A0<|Zm Y<|Zv (BK (vs:=[(0,_)]) (cs:=#[_]) Y (AY (pl:=#[(0,1)]) zeroValue245 eL (fun _=>by kernel_rfl) V))<|Ze (Bx #[_])<|AD fun br=>AG Y<|Zn [2,4,5,6] ?_;refine Zx<|A0<|Zm Y<|Zo Wh (AA (cs:=#[_,_,_,_,_,_,_]) Dg C7 Y As AM) ?_;refine Xr [_] Y call104 Y V (oA q hq) ?_;refine Zc [_,_] Y call160 Y V (pI hL K qj br) ?_;rintro _ _ ⟨_,⟨sr,kv,rfl⟩,rfl⟩;obtain ⟨gr,sj,rfl⟩:=kv.form;have gq:=DT kv A1
 obtain ⟨p7,qo,e7,⟨sJ,qw⟩,p9⟩:=id gq;injection e7 with e71 e72 e73
 subst e71 e73;refine A3 Y<|A0<|Zm Y<|Zv (Ab B6 Y)<|Zv (kS (n:=100) Y Y) ?_;rw [DA (show(EN x).length<=100 by omega)];refine Xr [_] Y call159 Y V (KI) ?_;refine A4<|Zq<|BV<|Zg<|A3 Y<|Zb [8,2,4,5,6,7] ?_;refine D7 (e0:=[(8,_)]) (H0:=[[(br,.cells #[_] 245 (0,0))],[]]) (fun e H=>∃(o:List AU) (vo:Value) (so:List A9) (pr:Option Addr) (cr:Nat),(r=FN q (EN x) o/\Bc 5 83 vo o.length (Ae o) so/\o.length<=200000)/\e=[(8,vo)]/\H=[[(br,.cells #[.slice pr 0 cr] 245 (0,0))],so]) Wp ?hx_1 ?hy_1
 case hx_1=>
  refine A0<|Zh 0 C6 V rfl A5 Y<|Zl AE Y ?_;refine Zv (CP Y Y)<|A4<|Av Y (fun cu=>?_) (fun cu=>?_)
  ·
   obtain ⟨O,X,ax⟩:∃o,Eh q (EN x) L2=some (o,[])/\r=FN q (EN x) o:=by rcases J with⟨h9,_⟩|⟨_,h9⟩;exact absurd cu h9;exact h9
   refine A0<|Zm Y<|Zv (Ab B6 Y)<|Zm Y<|A4<|AP<|Zb [8,31,2,4,5,6,7,29,30] ?_;refine BB (e0:=[(8,_),(31,_)]) (fun m e H=>∃(k:Nat) (o:List AU) (l9:List RP) (vo:Value) (so:List A9) (pr:Option Addr) (cr:Nat),m=(EN x).length -k/\(k<=(EN x).length/\Eh q ((EN x).take k) L2=some (o,l9)/\Bc 5 83 vo o.length (Ae o) so/\Fj M (.slice pr l9.length cr) l9/\o.length<=2000*k)/\e=[(8,vo),(31,I4 (k:Int))]/\H=[[(br,.cells #[.slice pr l9.length cr] 245 (0,0))],so]) (by exact ⟨0,[],L2,.slice none 0 0,[],_,_,V,⟨C0 _,V,Bf 5 _,hT,C0 _⟩,V,V⟩) Wp ?_;rintro _ _ _ ⟨k,o,l9,vo,so,pr,cr,rfl,⟨hk,G,I,bn,sO⟩,rfl,rfl⟩;obtain ⟨go,co,rfl⟩:=I.form;refine A0<|Zv (Au Y Y)<|A4<|Zq<|Av Y (fun j3=>?_) (fun j3=>?_)
   ·
    obtain ⟨r9,cO⟩:∃r9,(EN x)[k]?=some r9:=⟨_,B4 j3⟩;obtain ⟨g,off,cur,T,zz,rfl,pz,qx,gy⟩:=p9 k r9 cO;obtain ⟨o8,l8,U,o9,d9,_⟩:=Oa (EN x) k L2 (O,[]) A1 X;rw [G]at U;injection U with U
    injection U with h83 h84
    subst h83 h84;rw [fT cO]at d9;obtain ⟨a9,c9,gm,_,_⟩:=Lb d9;obtain ⟨x2,ic,j5,B,W⟩:=SF gm;have pq:=(OW B).1
    have ql:=QW (EN x) k r9 L2 _ _ a9 cO G gm;rw [ic,DE];rw [ic,DE]at bn;refine AC<|Zx<|Zq<|AP<|A0<|BX (Ad B6 AW Y Y A1)<|CO (cs:=[(g,.cells cur T zz)]) (by simp [pz]) (AA (cs:=r9.A16) CH AW Y A1 gy) V rfl ?_;refine Ze (Al DP #[_,_,_,_,_])<|AD fun bx=>Xe (Xw AW r9.A16) ?_;refine A4<|Zg<|Zm Y<|Zm Y<|Zo Wh (AA (cs:=#[_,_,_,_,_,_,_]) Dg C7 Y As AM) ?_;refine Zo Wh (AA (cs:=#[_,_,_,_,_]) CH AW Y As AM) ?_;refine Xr [_,_] Y call106 Y V (Si q q9 r9) ?_;refine Zc [_,_] Y call160 Y V (pI bn B j5 br) ?_;rintro _ _ ⟨_,⟨s5,h5,rfl⟩,rfl⟩;rw [<-W]at h5;obtain ⟨g5,c5,rfl⟩:=h5.form;refine Ze (BQ (by_:=40) (sz:=5) B6 (rfl:Tryz.prog.info? 83=some Tryz.t83) rfl rfl rfl rfl Y (I) Y (iH h5) Wo Wo (by exact CR _) (by rw [W];omega) (by rw [W];omega)) ?_;rintro _ _ ⟨wo,af,rfl⟩;obtain ⟨sw,qz,rfl⟩:=af.form;refine AG Y<|Zn [2,4,5,6,7,8,29,30,31] ?_;refine A8<|Zx<|Zg<|Ya (n:=1) Y Y<|Zm Y<|Z0<|Zn [8,31,2,4,5,6,7,29,30] ?_;refine Aa (e':=[(8,_),(31,_)]) (by exact ⟨k+1,o++a9.1,a9.2,_,_,_,_,rfl,⟨by omega,ql,BR af (by rw [B7]) (by rw [Bi]),bn.tail,by rw [B7,W];omega⟩,rfl,rfl⟩)
   have ek:k=(EN x).length:=by omega
   subst ek;rw [FF,X]at G;injection G with G
   injection G with hrd1 hrd2
   subst hrd1 hrd2;have vw:=ax
   refine Ay<|Zt<|Zt<|AR<|Zn [8,2,4,5,6,7] ?_;refine BL (e':=[(8,_)]) (by exact ⟨O,.slice go O.length co,so,pr,cr,⟨ax,I,by omega⟩,V,V⟩)
  obtain ⟨l5,qb⟩:L2=[]/\r=FN q (EN x) []:=by rcases J with⟨_,h9⟩|⟨h9,_⟩;exact h9;exact absurd h9 cu
  subst l5;refine AC<|Zn [8,2,4,5,6,7] ?_;refine BL (e':=[(8,_)]) (by exact ⟨[],.slice none 0 0,[],ET pv 1 cv 9,cv -1,⟨qb,Bf 5 _,C0 _⟩,V,V⟩)
 rintro _ _ ⟨o,vo,so,pr,cr,⟨qa,I,ve⟩,rfl,rfl⟩;obtain ⟨go,co,rfl⟩:=I.form;have p8:=DT I A1
 refine A0<|Zm Y<|Zp Y V<|Zh 0 eL V rfl Mb Y<|Zl S8 Y ?_;refine Zv (Ab To Y)<|Zv (Cb (n:=0) Y Y) ?_;rw [DA (show(0:Nat)=0 from rfl)];refine Xr [_] Y call159 Y V (KI) ?_;refine A4<|A0<|Zo Wh (AA (cs:=#[_,_,_,_,_,_,_]) Dg C7 Y As AM) ?_;refine Zm Y<|Zm Y<|Zc [_,_,_] Y call161 Y V (sU gq p8 q A1 (fun _ r hr=>WQ ((OW K).2 r hr) q.bq)) ?_;rintro _ _ ⟨_,⟨vz,s3,rfl,h3,rfl⟩,rfl⟩;rw [P8 hq,<-qa]at h3⊢;obtain ⟨p3,c3,rfl⟩:=h3.form;refine Xe (Xw Ax #[.slice p3 r.rows.length c3,I4 r.val,.bool r.fnd]) ?_;refine Xe (Zs CD Y Y V (hi:=by decide)) ?_;refine Z0<|Zn [4,5] ?_;refine Zx<|AJ<|qc V rfl call158 (xP _) V call157 (yP bk _) Wp ?_;rintro _ rfl;refine ⟨_,[s3,M],fun a w hf hs=>UH results90 ((CV a _ hf 4).trans rfl) (Ak Bm Ax (by exact CT _) (cs:=#[.slice p3 r.rows.length c3,I4 r.val,.bool r.fnd]) (BN rfl) w (ZR (b:=bo) Wh hs)) ((CV a _ hf 5).trans rfl) (Yx E4 (v:= .bool true) (i:=0) rfl w (ZR (b:=bk) Wh hs)),⟨_,s3,rfl,h3,rfl⟩,Sub.amid (by repeat(first|exact Sub.refl _|exact Sub.nil _|(apply Sub.cons;(focus (repeat(first|exact One.here _ _|apply One.there))))|refine Sub.drop _ ?_))⟩
theorem Nk{α:Type}(f:α->List Value)(sz:Nat)(W:∀a,(f a).length=sz)(h0:0<sz){l:List α}(X:∀(i:Nat) (a:α),l[i]?=some a->∃g off cur T zz,p=some ⟨g,off,none⟩/\(g,Obj.cells cur T zz)∈M/\off+i*sz+sz<=cur.size/\cur.extract (off+i*sz) (off+i*sz+sz)=(f a).toArray):FK M p (l.flatMap f):=by
 intro j u J;have B:(l.flatMap f).length=l.length*sz:=by
  clear X J;induction l with
  |nil=>simp
  |cons a l ih=>rw [HH,B7,ih,W,DE,J1];omega
 have m:=(BE.1 J).1;rw [B]at m;have hd:=Nat.div_add_mod j sz
 have hm:=eK j h0;have hi:j/sz<l.length:=my (by rw [kk];exact m)
 obtain ⟨a,U⟩:∃a,l[j/sz]?=some a:=⟨_,B4 hi⟩;obtain ⟨g,off,cur,T,zz,rfl,G,K,I⟩:=X (j/sz) a U;refine ⟨g,off,cur,T,zz,V,G,?_⟩;have h1:=PE I K (j%sz) hm
 have h2:=Iq f sz W l (j/sz) a U;have e1:j/sz*sz+j%sz=j:=by rw [kk];exact hd
 have O:(l.flatMap f)[j/sz*sz+j%sz]?=(f a)[j%sz]?:=by rw [<-h2,H3,AK hm,OR]
 rw [e1,J]at O;rw [show off+j=off+j/sz*sz+j%sz by omega,h1,fh];exact O.symm
theorem jN(h:ZsU M (.slice p n cap) Z):FK M p (Z.flatMap Ee):=by
 obtain ⟨B,g,e,_,m⟩:=h;injection e with e1 e2 e3
 subst e1;exact Nk _ 9 (fun _=>rfl) AN fun i z hz=>(m i z hz).2
theorem dG(h:EW M (.slice p n cap) l):FK M p (Dp l):=by
 obtain ⟨B,g,e,_,m⟩:=h;injection e with e1 e2 e3
 subst e1;exact Nk _ 2 (fun _=>rfl) AN fun i z hz=>(m i z hz).2
theorem UI(l:List BU):(Dp l).length=l.length*2:=by
 induction l with
 |nil=>rfl
 |cons a l ih=>unfold Dp at*;rw [HH,B7,ih];simp only [DE,It];omega
theorem Wt(l:List BU):∀u∈Dp l,u.oneCell'=true:=by
 intro u g;obtain ⟨z,_,h⟩:=RT.1 g;simp only [D0,RM,SD]at h;rcases h with rfl|rfl<;>rfl
structure bB where
 q:QM
 res:CF
 since:Int
 until_:Int
 base:Int
 ranges:List RP
 recs:List BU
structure Xp where
 a:bB
 rp:Option Addr
 rc:Nat
 gp:Option Addr
 gc:Nat
 cp:Option Addr
 cc:Nat
abbrev Xp.A18(c:Xp):Array Go.Value:=#[I4 c.a.q.kd,I4 c.a.q.tb,I4 c.a.q.cl,I4 c.a.q.lo,I4 c.a.q.hi,I4 c.a.q.bq,I4 c.a.q.ot,.slice c.rp c.a.res.rows.length c.rc,I4 c.a.res.val,.bool c.a.res.fnd,I4 c.a.since,I4 c.a.until_,I4 c.a.base,.slice c.gp c.a.ranges.length c.gc,.slice c.cp c.a.recs.length c.cc]
def Xp.ok(M:List A9)(z:Xp):Prop:=E8 M (.slice z.rp z.a.res.rows.length z.rc) z.a.res.rows/\Fj M (.slice z.gp z.a.ranges.length z.gc) z.a.ranges/\EW M (.slice z.cp z.a.recs.length z.cc) z.a.recs
theorem La(h:EW M v l)(K:∀c∈M,c∈M'):EW M' v l:=by
 obtain ⟨p,cap,e,U,O⟩:=h;refine ⟨p,cap,e,U,fun i r W=>?_⟩;obtain ⟨⟨X,cap2,e2,J,I⟩,g,off,cur,T,zz,m,B,G⟩:=O i r W;refine ⟨⟨X,cap2,e2,J,fun j c hc=>?_⟩,g,off,cur,T,zz,m,K _ B,G⟩;obtain ⟨g,off,cur,T,zz,m,B,G⟩:=I j c hc;exact ⟨g,off,cur,T,zz,m,K _ B,G⟩
theorem Xp.ok.mono{z:Xp}(h:z.ok M)(g:∀c∈M,c∈M'):z.ok M':=⟨h.1.mono g,h.2.1.mono g,La h.2.2 g⟩
noncomputable def Jm(q:QM)(base:Int)(L:List RP)(recs:List BU):Option bB:=(EX q L).bind fun r=>if recs.length<=64 then(GD q base 0 (r,base) recs).map fun st=>⟨q,st.1,st.2,base+(recs.length:Int),base,L,recs⟩else none
variable{base:Int}
theorem gL{recs:List BU}(h:¬recs.length<=64):Jm q base L recs=none:=by
 unfold Jm;cases EX q L with
 |none=>rfl
 |some r=>rw [I2,AH h]
theorem QI{recs:List BU}(g:EX q L=some r)(h:recs.length<=64):Jm q base L recs=(GD q base 0 (r,base) recs).map fun st=>⟨q,st.1,st.2,base+(recs.length:Int),base,L,recs⟩:=by
 unfold Jm;rw [g,I2,AK h]
theorem LZ(h:(BC q r base l).2.2=true):GD q base 0 (r,base) l=some ((BC q r base l).1,(BC q r base l).2.1):=by
 unfold BC at*;split at h
 · rename_i st h9;rw [h9]
 · cases h
theorem YM(h:(BC q r base l).2.2=false):GD q base 0 (r,base) l=none:=by
 unfold BC at*;split at h
 · cases h
 · rename_i h9;exact h9
theorem jC(hq:BI q){rows g:List AU}(hl:rows.length<=100)(I:∀r∈rows,r.ok):(FN q rows g).rows.length<=200/\-1000000000000000000<=(FN q rows g).val/\(FN q rows g).val<=1000000000000000000:=by
 have G:=iZ (q:=q) (rows:=rows) (fun r hr=>WQ (I r hr) q.bq);have B:(Cq q rows).length<=1000000000:=by rw [K9];omega
 have hj:=TI q rows g;have O:∀(lt:Int->Int->Bool) (hlt:∀a b c,lt b a=false->lt c b=false->lt c a=false) (hirr:∀a,lt a a=false) (hasy:∀a b,lt a b=true->lt b a=false),(ES lt (Cq q rows)).rows.length<=200/\-1000000000000000000<=(ES lt (Cq q rows)).val/\(ES lt (Cq q rows)).val<=1000000000000000000:=fun lt U W X=>by
  cases hms:Cq q rows with
  |nil=>exact ⟨C0 _,by show(_:Int)<=0;decide,by show(0:Int)<=_;decide⟩
  |cons z ms=>
   obtain ⟨x,J,_,K⟩:=KG lt U W X z ms;rw [K];rw [hms]at G;have:=G x J
   exact ⟨C0 _,by show _<=x;omega,by show x<=_;omega⟩
 have m:=iG G B (Cq q rows).length;rw [FF]at m;unfold FN;split
 · exact ⟨C0 _,by simp only;omega,by simp only;omega⟩
 · split
   · exact ⟨C0 _,m⟩
   · split
     · exact O _ (fun a b c h1 h2=>by simp only [Mn]at*;omega) (fun a=>by simp) (fun a b h=>by simp only [G2,Mn]at*;omega)
     · split
       · exact O _ (fun a b c h1 h2=>by simp only [Mn]at*;omega) (fun a=>by simp) (fun a b h=>by simp only [G2,Mn]at*;omega)
       · split
         · exact ⟨by simp only;omega,by simp only;decide,by simp only;decide⟩
         · exact ⟨by simp only;omega,by simp only;decide,by simp only;decide⟩
theorem MH{sz:Nat}{e:TypeId}{xs:List Value}(h:Bc sz e v n xs s):n<=maxLen:=by
 obtain ⟨_,⟨_,h0,_⟩|⟨_,_,_,_,_,_,g,h2,_⟩⟩:=h
 · omega
 · omega
theorem LM(h:EX q L=some r):BI q/\r.rows.length<=200/\-1000000000000000000<=r.val/\r.val<=1000000000000000000:=by
 obtain ⟨x,G,_,g,_,hc,m,B⟩:=QP h;refine ⟨g,?_⟩;rcases B with⟨_,_,rfl⟩|⟨_,o,_,rfl⟩
 · exact jC g m (OW hc).2
 · exact jC g m (OW hc).2
theorem L9(hv:ZsU M v Z)(hb:Z.length<=1000000):Ba prog 118 #[v] [M] (fun r H'=>∃K,Bc 9 152 r Z.length (Z.flatMap Ee) K/\H'=[K,M]):=by
 have X:=mL;have B:=hv
 obtain ⟨p,cap,rfl,⟨hl,W⟩,U⟩:=id hv;replace B:=jN B;refine Se func118 ntmps118 [0] ?_;intro u R;refine A0<|A3 Y<|Zq<|A0<|Zm Y<|Zv (Dk To Y Y)<|A4<|AV Y (fun J=>?_) (fun J=>?_)
 ·
  have G:p=none:=by cases p with
   |none=>rfl
   |some x=>cases J
  have h0:Z=[]:=by
   cases Z with
   |nil=>rfl
   |cons x l=>obtain ⟨_,g,off,cur,T,zz,I,_⟩:=U 0 x rfl;rw [G]at I;cases I
  refine Zq<|BV<|Zg<|A3 Y<|AJ<|Zt<|AO rfl results118 Y (by exact ⟨[],by rw [h0];exact Bf 9 _,rfl⟩)
 refine AC<|Zx<|A0<|Ze (EM To Kf)<|AD fun O=>Zm Y<|Ze (H8 (by_:=120) (sz:=9) To (V:Tryz.prog.info? 152=some Tryz.t152) V rfl V rfl Y (II 9 152 O 0 [] V AN) Y (B) (by exact zT _) AN Wo Wo (by exact xm _) A1 A1) ?_;rintro _ _ ⟨af,m,rfl⟩;replace m:=BR m (D2 _) (KK _);refine A3 Y<|AJ<|AO V results118 Y (by exact ⟨_,m,V⟩)
theorem I7{Z:List BU}(hv:EW M v Z)(hb:Z.length<=1000000):Ba prog 53 #[v] [M] (fun r H'=>∃K,Bc 2 50 r Z.length (Dp Z) K/\H'=[K,M]):=by
 have X:=mL;have B:=hv
 obtain ⟨p,cap,rfl,⟨hl,W⟩,U⟩:=id hv;replace B:=dG B;refine Se func53 ntmps53 [0] ?_;intro u R;refine A0<|A3 Y<|Zq<|A0<|Zm Y<|Zv (Dk GB Y Y)<|A4<|AV Y (fun J=>?_) (fun J=>?_)
 ·
  have G:p=none:=by cases p with
   |none=>rfl
   |some x=>cases J
  have h0:Z=[]:=by
   cases Z with
   |nil=>rfl
   |cons x l=>obtain ⟨_,g,off,cur,T,zz,I,_⟩:=U 0 x rfl;rw [G]at I;cases I
  refine Zq<|BV<|Zg<|A3 Y<|AJ<|Zt<|AO rfl results53 Y (by exact ⟨[],by rw [h0];exact Bf 2 _,rfl⟩)
 refine AC<|Zx<|A0<|Ze (EM GB F2)<|AD fun O=>Zm Y<|Ze (H8 (by_:=32) (sz:=2) GB (V:Tryz.prog.info? 50=some Tryz.t50) V rfl V rfl Y (II 2 50 O 0 [] V AN) Y (B) (by exact UI _) AN Wo Wo (by exact Wt _) A1 A1) ?_;rintro _ _ ⟨af,m,rfl⟩;replace m:=BR m (D2 _) (KK _);refine A3 Y<|AJ<|AO V results53 Y (by exact ⟨_,m,V⟩)
set_option maxHeartbeats 1000000 in
theorem uH(q:QM)(te base:Int)(hb:-1000000000000<=base/\base<=1000000000000){pg:Option Addr}{cg:Nat}(hL:Fj M (.slice pg L.length cg) L)(kv:L.length<=1000000)(hr:EX q L=some r){lv:Value}(O:EW M lv l)(ek:∀x∈l,x.cs.length<=1000):Ba prog 60 #[.agg #[I4 q.kd,I4 q.tb,I4 q.cl,I4 q.lo,I4 q.hi,I4 q.bq,I4 q.ot,I4 te,I4 base,.slice pg L.length cg],lv] [M] (fun w H'=>(∃(z:Xp) (s3 s1 s2:List A9),Jm q base L l=some z.a/\z.ok (s3++(s1++(s2++M)))/\w= .tuple #[.agg z.A18,.bool true]/\H'=[s3,s1,s2,M])\/(Jm q base L l=none/\w= .tuple #[.agg #[I4 0,I4 0,I4 0,I4 0,I4 0,I4 0,I4 0,.slice none 0 0,I4 0,.bool false,I4 0,I4 0,I4 0,.slice none 0 0,.slice none 0 0],.bool false]/\H'=[M])):=by
 have l9:=mL;obtain ⟨hq,o8,ic⟩:=LM hr;obtain ⟨pl,cl,rfl,l5,l8⟩:=id O;obtain ⟨Z,hZ,W⟩:=id hL;have U:Z.length=L.length:=by rw [<-W,B2]
 obtain ⟨pz,cz,ez,_,j3⟩:=id hZ;refine Se func60 ntmps60 [0,1] ?_;intro u R;refine A0<|Ze (Bx #[I4 q.kd,I4 q.tb,I4 q.cl,I4 q.lo,I4 q.hi,I4 q.bq,I4 q.ot,I4 te,I4 base,.slice pg L.length cg])<|AD fun be=>Ze (Al MT #[_,_,_,_,_,_,_,_,_,_,_,_,_,_,_])<|AD fun bo=>A3 Y<|A0<|Zh 0 FG V rfl C7 Y<|Zo Wh (AA (cs:=#[_,_,_,_,_,_,_]) Dg C7 Y As AM) ?_;refine Zh 9 FG V rfl Mb Y<|Zl S8 Y ?_;refine Zc [_,_] Y call90 Y V (WV hL q hr) ?_;rintro _ _ ⟨_,⟨o9,s0,rfl,h0,rfl⟩,rfl⟩;obtain ⟨p0,c0,rfl⟩:=h0.form;have d9:=DT h0 A1
 refine Zm Y<|Zd Y V<|Zd Y V<|Ze (Al G4 #[_,_,_])<|AD fun bs=>Xe (Xw Ax #[.slice p0 r.rows.length c0,I4 r.val,.bool r.fnd]) ?_;refine AG Y<|Zn [1,2,4,6,7] ?_;refine Zx<|Zq<|A0<|Zm Y<|Zv (Br Y)<|Zm Y<|Af (t:=19) Y V (fun X=>by cases X)<|fun X=>Zf Y Y<|Yg (Ab GB Y)<|Yg (DF (n:=64) Y Y)<|Zv (AL Y Y)<|A4<|Av Y (fun af=>?_) (fun af=>?_)
 ·
  refine A0<|Zv (BK (vs:=[]) (cs:=#[_,_,_,_,_,_,_,_,_,_,_,_,_,_,_]) Y (AY (pl:=#[(0,7),(7,3),(10,1),(11,1),(12,1),(13,1),(14,1)]) MT N3 (fun _=>by kernel_rfl) rfl))<|Xe (BM LL Y Y HR Wu (by exact EJ rfl) E7 AN (by exact BA _)) ?_;refine A3 Y<|AJ<|Zt<|Bn V results60 Y Wh (Ak isAgg55 LL Wn (BN V)) Y (by exact .inr ⟨gL A1,V,V⟩)
 refine AC<|Zx<|Zb [1,2,4,6] ?_;refine D7 (e0:=[]) (H0:=[]) (fun e H=>∃(I:Nat) (G:Option Addr) (B:Nat) (s1:List A9) (m:Option Addr) (g:Nat) (s2:List A9),(Bc 9 152 (.slice G L.length B) Z.length (Z.flatMap Ee) s1/\Bc 2 50 (.slice m l.length g) l.length (Dp l) s2)/\e=[(8,I5 I)]/\H=[[(I,.cells #[I4 q.kd,I4 q.tb,I4 q.cl,I4 q.lo,I4 q.hi,I4 q.bq,I4 q.ot,.slice none 0 0,I4 0,.bool false,I4 0,I4 (base+(l.length:Int)),I4 base,.slice G L.length B,.slice m l.length g] 55 (0,0))],s1,s2]) Wp ?hx_2 ?hy_2
 case hx_2=>
  refine Az (n:=17) (0::1::0::4::0::16::60::0::128::0::512::1536::0::7680::16383::0::65535::[]) 108544 A6 A6 V<|A2 0 V (AB (off:=0) FG V rfl C7 Y)<|E6 1 V Wh (AA (cs:=#[_,_,_,_,_,_,_]) Dg C7 Y As AM) ?_;refine A2 2 V (AB (off:=8) FG V rfl A5 Y)<|B3 3 V AE Y ?_;refine A2 4 V (AQ Y)<|A2 5 V (Ab GB Y) ?_
  (refine Dl (D':=127) 6 (H6 Y Y (IntWalk.i64_in _ ?_)) ?_;(focus (omega)))
  refine A2 7 V (AB (off:=8) FG V rfl A5 Y)<|B3 8 V AE Y ?_;refine A2 9 V (AB (off:=9) FG V rfl Mb Y)<|B3 10 V S8 Y ?_;refine A2 12 V (AQ Y)<|Zz (l:=[11,15])<|B1 [false,true,true,true] [(8,(_,_)),(3,(_,_)),(1,(_,_))] V rfl (Zw [_] Y call118 Y V (L9 hZ A1)) ?_ Bv ?_
  ·
   rintro _ _ ⟨_,⟨s1,J,rfl⟩,rfl⟩;refine ⟨Zk (Zk (Zk (AZ))),?_⟩;obtain ⟨G,B,e1⟩:=J.form;rw [U]at e1;subst e1;refine Zz (l:=[13,15])<|B1 [true,true,true] [(8,(_,_)),(3,(_,_)),(1,(_,_))] V rfl (Zw [_] Y call53 Y V (I7 O A1)) ?_ Bv ?_
   ·
    rintro _ _ ⟨_,⟨s2,h2,rfl⟩,rfl⟩;refine ⟨Zk (Zk (Zk (AZ))),?_⟩;obtain ⟨m,g,rfl⟩:=h2.form;refine A2 14 V (BK (vs:=[(0,.agg q.A17),(3,I4 (base+(l.length:Int))),(4,I4 base),(5,.slice G L.length B),(6,.slice m l.length g)]) (cs:=#[I4 q.kd,I4 q.tb,I4 q.cl,I4 q.lo,I4 q.hi,I4 q.bq,I4 q.ot,.slice none 0 0,I4 0,.bool false,I4 0,I4 (base+(l.length:Int)),I4 base,.slice G L.length B,.slice m l.length g]) Y (AY (pl:=#[(0,7),(7,3),(10,1),(11,1),(12,1),(13,1),(14,1)]) MT N3 (fun _=>by kernel_rfl) A6))<|Yz 15 0 65535 [8,3,1] [true,true,true] [(8,(_,_)),(3,(_,_)),(1,(_,_))] V Y V rfl V rfl (Al MT #[_,_,_,_,_,_,_,_,_,_,_,_,_,_,_])<|AD fun I=>B5<|Yw 16 131071 V (Xw LL #[I4 q.kd,I4 q.tb,I4 q.cl,I4 q.lo,I4 q.hi,I4 q.bq,I4 q.ot,.slice none 0 0,I4 0,.bool false,I4 0,I4 (base+(l.length:Int)),I4 base,.slice G L.length B,.slice m l.length g])<|CM<|Ai<|Zn [8,1,2,4,6] ?_;refine BL (e':=[(8,_)]) (by exact ⟨I,G,B,s1,m,g,s2,⟨J,h2⟩,V,V⟩)
   refine B1 [true,true,true] [(8,(_,_)),(3,(_,_)),(1,(_,_))] V rfl (Al MT #[_,_,_,_,_,_,_,_,_,_,_,_,_,_,_]) ?_ (fun _ _ h=>h.elim) Ag;rintro _ _ ⟨I,rfl,rfl⟩;refine B5<|Zz (l:=[13])<|B1 [true,true,true] [(8,(_,_)),(3,(_,_)),(1,(_,_))] V rfl (Zw [_] Y call53 Y V (I7 O A1)) ?_ Bv Ag;rintro _ _ ⟨_,⟨s2,h2,rfl⟩,rfl⟩;refine ⟨Zk (Zk (Zk (AZ))),?_⟩;obtain ⟨m,g,rfl⟩:=h2.form;refine A2 14 V (BK (vs:=[(0,.agg q.A17),(3,I4 (base+(l.length:Int))),(4,I4 base),(5,.slice G L.length B),(6,.slice m l.length g)]) (cs:=#[I4 q.kd,I4 q.tb,I4 q.cl,I4 q.lo,I4 q.hi,I4 q.bq,I4 q.ot,.slice none 0 0,I4 0,.bool false,I4 0,I4 (base+(l.length:Int)),I4 base,.slice G L.length B,.slice m l.length g]) Y (AY (pl:=#[(0,7),(7,3),(10,1),(11,1),(12,1),(13,1),(14,1)]) MT N3 (fun _=>by kernel_rfl) A6))<|Yw 16 131071 V (Xw LL #[I4 q.kd,I4 q.tb,I4 q.cl,I4 q.lo,I4 q.hi,I4 q.bq,I4 q.ot,.slice none 0 0,I4 0,.bool false,I4 0,I4 (base+(l.length:Int)),I4 base,.slice G L.length B,.slice m l.length g])<|CM<|Ai<|Zn [8,1,2,4,6] ?_;refine BL (e':=[(8,_)]) (by exact ⟨I,G,B,s1,m,g,s2,⟨J,h2⟩,V,V⟩)
  refine B1 [true,true,true,true] [(10,(_,_)),(8,(_,_)),(3,(_,_)),(1,(_,_))] V rfl (Al MT #[_,_,_,_,_,_,_,_,_,_,_,_,_,_,_]) ?_ (fun _ _ h=>h.elim) Ag;rintro _ _ ⟨I,rfl,rfl⟩;refine B5<|Zz (l:=[11])<|B1 [false,true,true,true] [(8,(_,_)),(3,(_,_)),(1,(_,_))] V rfl (Zw [_] Y call118 Y V (L9 hZ A1)) ?_ Bv Ag;rintro _ _ ⟨_,⟨s1,J,rfl⟩,rfl⟩;refine ⟨Zk (Zk (Zk (AZ))),?_⟩;obtain ⟨G,B,e1⟩:=J.form;rw [U]at e1;subst e1;refine Zz (l:=[13])<|B1 [true,true,true] [(8,(_,_)),(3,(_,_)),(1,(_,_))] V rfl (Zw [_] Y call53 Y V (I7 O A1)) ?_ Bv Ag;rintro _ _ ⟨_,⟨s2,h2,rfl⟩,rfl⟩;refine ⟨Zk (Zk (Zk (AZ))),?_⟩;obtain ⟨m,g,rfl⟩:=h2.form;refine A2 14 V (BK (vs:=[(0,.agg q.A17),(3,I4 (base+(l.length:Int))),(4,I4 base),(5,.slice G L.length B),(6,.slice m l.length g)]) (cs:=#[I4 q.kd,I4 q.tb,I4 q.cl,I4 q.lo,I4 q.hi,I4 q.bq,I4 q.ot,.slice none 0 0,I4 0,.bool false,I4 0,I4 (base+(l.length:Int)),I4 base,.slice G L.length B,.slice m l.length g]) Y (AY (pl:=#[(0,7),(7,3),(10,1),(11,1),(12,1),(13,1),(14,1)]) MT N3 (fun _=>by kernel_rfl) A6))<|Yw 16 131071 V (Xw LL #[I4 q.kd,I4 q.tb,I4 q.cl,I4 q.lo,I4 q.hi,I4 q.bq,I4 q.ot,.slice none 0 0,I4 0,.bool false,I4 0,I4 (base+(l.length:Int)),I4 base,.slice G L.length B,.slice m l.length g])<|CM<|Ai<|Zn [8,1,2,4,6] ?_;refine BL (e':=[(8,_)]) (by exact ⟨I,G,B,s1,m,g,s2,⟨J,h2⟩,V,V⟩)
 rintro _ _ ⟨I,G,B,s1,m,g,s2,⟨J,h2⟩,rfl,rfl⟩;refine Zq<|A0<|Zh 0 FG V rfl C7 Y<|Zo Wh (AA (cs:=#[_,_,_,_,_,_,_]) Dg C7 Y As AM) ?_;refine Zo Wh (AA (cs:=#[_,_,_]) Bm Ax Y As AM) ?_;refine Zh 8 FG V rfl A5 Y<|Zl AE Y ?_;refine Zm Y<|Zc [_,_,_,_] Y call91 Y V (QV q hq base A1 O A1 ek d9 A1 ic) ?_;rintro _ _ ⟨_,⟨p8,s3,rfl,h3,rfl⟩,rfl⟩;obtain ⟨g3,c3,rfl⟩:=h3.form;refine Zm Y<|Zd Y rfl<|Zd Y rfl<|Zd Y rfl<|Zh 7 N3 rfl rfl Ax Y<|Xe (BM Ax Y Y HR Wu (by exact (rfl:_=(#[I4 q.kd,I4 q.tb,I4 q.cl,I4 q.lo,I4 q.hi,I4 q.bq,I4 q.ot,.slice g3 (BC q r base l).1.rows.length c3,I4 (BC q r base l).1.val,.bool (BC q r base l).1.fnd,I4 0,I4 (base+(l.length:Int)),I4 base,.slice G L.length B,.slice m l.length g]:Array Value))) E7 As (by exact BA _)) ?_;refine Zh 10 N3 V rfl A5 Y<|Xe (Zs A5 Y Y V (hc:=by exact (V:_=(#[I4 q.kd,I4 q.tb,I4 q.cl,I4 q.lo,I4 q.hi,I4 q.bq,I4 q.ot,.slice g3 (BC q r base l).1.rows.length c3,I4 (BC q r base l).1.val,.bool (BC q r base l).1.fnd,I4 (BC q r base l).2.1,I4 (base+(l.length:Int)),I4 base,.slice G L.length B,.slice m l.length g]:Array Value))) (hi:=by(simp;done))) ?_;refine AG Y<|Zn [4,7,8] ?_;refine Zx<|A0<|Zm Y<|Zv (Br Y)<|A4<|AV Y (fun K=>?_) (fun K=>?_)
 ·
  have gq:(BC q r base l).2.2=false:=by simpa using K
  refine A0<|Zv (BK (vs:=[]) (cs:=#[_,_,_,_,_,_,_,_,_,_,_,_,_,_,_]) Y (AY (pl:=#[(0,7),(7,3),(10,1),(11,1),(12,1),(13,1),(14,1)]) MT N3 (fun _=>by kernel_rfl) rfl))<|Xe (BM LL Y Y HR Wu (by exact EJ rfl) E7 AN (by exact BA _)) ?_;refine A3 Y<|AJ<|Zt<|Bn rfl results60 Y Wh (Ak isAgg55 LL Wn (BN rfl)) Y (by exact .inr ⟨by rw [QI hr A1,YM gq];rfl,rfl,rfl⟩)
 have bn:(BC q r base l).2.2=true:=by simpa using K
 refine AC<|Zx<|Zq ?_;have cu:∀z∈Z,z.ok M:=fun z hz=>by obtain ⟨i,hi⟩:=GW hz;exact (j3 i z hi).1
 have ax:∀x∈l,Ck M (.slice x.q x.cs.length x.cap) x.cs:=fun x hx=>by obtain ⟨i,hi⟩:=GW hx;obtain ⟨_,_,_,_,gm⟩:=O;exact (gm i x hi).1
 have gy:=LZ bn;have j5:=Es h3
 have cO:=MH h3;refine Zg<|Zo Wh (AA (cs:=#[_,_,_,_,_,_,_,_,_,_,_,_,_,_,_]) isAgg55 LL Y As AM) ?_;refine Xe (BM LL Y Y HR Wu (by exact EJ rfl) E7 AN (by exact BA _)) ?_;refine A3 Y<|AJ<|Bn rfl results60 Y Wh (Ak isAgg55 LL Wn (BN rfl)) Y (by exact .inl ⟨⟨⟨q,(BC q r base l).1,(BC q r base l).2.1,base+(l.length:Int),base,L,l⟩,g3,c3,G,B,m,g⟩,s3,s1,s2,by rw [QI hr A1,gy];rfl,⟨(DT h3 cO).mono (fun c hc=>DS _ hc),⟨Z,(WH J A1 cu).mono (fun c hc=>by rcases B9.1 hc with h9|h9;exact G1 _ (DS _ h9);exact G1 _ (G1 _ (G1 _ h9))),W⟩,La (Jv h2 (by show l.length<=maxLen;omega) ax) (fun c hc=>G1 _ (G1 _ hc))⟩,rfl,rfl⟩)
theorem xR(q:QM)(te base:Int)(J:-1000000000000<=base/\base<=1000000000000){G:Option Addr}{B:Nat}(I:Fj M (.slice G L.length B) L)(g:L.length<=1000000)(O:EX q L=some r){lv:Value}(K:EW M lv l)(m:∀x∈l,x.cs.length<=1000):Ba prog 60 #[.agg #[I4 q.kd,I4 q.tb,I4 q.cl,I4 q.lo,I4 q.hi,I4 q.bq,I4 q.ot,I4 te,I4 base,.slice G L.length B],lv] [M] (fun w H'=>∃(z:Xp) (s:List A9) (b:Bool),((b=true/\Jm q base L l=some z.a/\z.ok (s++M))\/(b=false/\Jm q base L l=none))/\w= .tuple #[.agg z.A18,.bool b]/\H'=[s,M]):=by
 refine Gs (uH q te base J I g O K m) V ?_;rintro w H' (⟨z,s3,s1,s2,h1,h2,rfl,rfl⟩|⟨h1,rfl,rfl⟩)
 · exact ⟨_,⟨z,s3++(s1++s2),true,.inl ⟨rfl,h1,by simpa only [CA]using h2⟩,rfl,rfl⟩,by simp⟩
 · exact ⟨_,⟨⟨⟨⟨0,0,0,0,0,0,0⟩,CF.none,0,0,0,[],[]⟩,none,0,none,0,none,0⟩,[],false,.inr ⟨rfl,h1⟩,rfl,rfl⟩,by simp⟩
end Go.Proofs.YteaiajghbkenoaaGreatDoor
