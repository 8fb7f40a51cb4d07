/- statetree: Verify. -/
/- What Prove returns is complete, right, and about the rows of the range: in plain words. -/
/- The integers that a law picks; the rows of a log. -/
/- The fixed example of the law of chapter 10: its rows, and its digests. -/
/- sane of the law of chapter 10. -/
/- proof.Make, for queries that are not joins. -/
/- proof.Start on what Make returns, for queries that are not joins. -/
/- What Start makes of proofs; what Make returns; proofs in memory. -/
/- proof.Make, for all queries. -/
/- proof.Start on any proofs of which something follows. -/
/- slices.Clone of proofs and records; proof.Build. -/
import Derived.Test.YteaiajghbkenoaaGreatDoorEz
import Derived.Test.YteaiajghbkenoaaGreatDoorTr8
import Derived.Test.YteaiajghbkenoaaGreatDoorQe1
import Derived.Test.YteaiajghbkenoaaGreatDoorTr6
import Derived.Test.YteaiajghbkenoaaGreatDoorEx36
set_option linter.unusedVariables false
set_option linter.unusedSimpArgs false
namespace Go.Proofs.YteaiajghbkenoaaGreatDoor
open Go.Proofs.Tryz
open Go Go.RowKit Gw
set_option maxRecDepth 100000
attribute [local irreducible] Gw.At Gw.Nx Gw.Ops
structure p5(root:Bs)(x:RP):Prop where
 comp:Ga x
 n16:x.roots.length=16
 np:x.paths.length=x.rows.length
 root:Dk x.roots=root
 sum:∃d:Bs,d.length=32/\x.roots[4*x.tb.toNat+x.cl.toNat]?=some (Tx x.ct++d)/\(x.ct=0->d=Dk [])/\
  (x.ct≠0->∀(k:Nat) (r:AU) (pf:List Bs),x.rows[k]?=some r->x.paths[k]?=some pf->sX d x.ct.toNat (x.fi.toNat+k) (QK r) pf=true)
noncomputable instance(root:Bs)(x:RP):Decidable (p5 root x):=Classical.propDecidable _
theorem Tn{m:AU->Bool}:∀{l:List AU} {i:Nat} {x:AU},i<Cb m l->l[i]?=some x->m x=false
 |[],i,x,_,hx=>by simp at hx
 |z::l,i,x,hi,hx=>by
  unfold Cb at hi;rw [P2]at hi;by_cases hz:m z=true
  · rw [AK (by simp [hz])]at hi;simp at hi
  · have g:m z=false:=by simpa using hz
    rw [AM (by simp [g])]at hi;rcases i with _|i
    · simp at hx;rw [<-hx];exact g
    · simp only [ab]at hx
      exact Tn (l:=l) (by unfold Cb;simp at hi;omega) hx
theorem QI{g:AU->Bool}:∀{l:List AU} {x:AU},l[Cb g l]?=some x->g x=true
 |[],x,hx=>by simp at hx
 |z::l,x,hx=>by
  unfold Cb at hx;rw [P2]at hx;by_cases hz:g z=true
  · rw [AK (by simp [hz])]at hx;simp at hx;rw [<-hx];exact hz
  · have m:g z=false:=by simpa using hz
    rw [AM (by simp [m])]at hx;simp only [DH,ab]at hx;exact QI (l:=l) hx
def ltV(c:Nat)(a b:AU):Prop:=Df a c<Df b c\/Df a c=Df b c/\a.k<b.k
variable{rs:List AU}
theorem TD(g:BP rs)(t:Int)(c:Nat):(BG rs t c).Pairwise (ltV c):=by
 have m:=Ej g t c (-1000000000) 1000000000;have h2:(rs.filter (inR t c (-1000000000) 1000000000)).Pairwise (fun a b=>a.k≠b.k):=(QD g fun r h=>jF h).imp (fun h=>by omega)
 have B:(Dq rs t c (-1000000000) 1000000000).Pairwise (fun a b=>a.k≠b.k):=((EO rs t c (-1000000000) 1000000000).pairwise_iff (fun h=>h.symm)).2 h2;exact (m.and B).imp (fun{a b} h=>by unfold ltV;obtain ⟨G,I⟩:=h;unfold leV at G;omega)
variable{j i:Nat}
theorem yP{l:List AU}{R:AU->AU->Prop}(h:l.Pairwise R){a b:AU}(g:i<j)(m:l[i]?=some a)(B:l[j]?=some b):R a b:=by
 obtain ⟨hi,rfl⟩:=B9.1 m;obtain ⟨G,rfl⟩:=B9.1 B;exact du.1 h i j hi G g
variable{t:Int}{c:Nat}
theorem Yv(G:BP rs){a b:AU}(m:i<=j)(B:(BG rs t c)[i]?=some a)(g:(BG rs t c)[j]?=some b):Df a c<=Df b c:=by
 rcases Nat.eq_or_lt_of_le m with rfl|h
 · rw [B]at g;injection g with g;rw [g];exact Z1 _
 · have:=yP (TD G t c) h B g
   unfold ltV at this;omega
theorem jA(G:BP rs)(t c:Nat)(lo:Int){r:AU}(g:(BG rs (t:Int) c)[i]?=some r):(Cb (geV c lo) (BG rs (t:Int) c)<=i->lo<=Df r c)/\(i<Cb (geV c lo) (BG rs (t:Int) c)->Df r c<lo):=by
 constructor
 · intro h
   have B:=(B9.1 g).1;have m:(BG rs (t:Int) c)[Cb (geV c lo) (BG rs (t:Int) c)]?=some _:=B4 A1
   have I:=HX (QI m);have h2:=Yv G h m g
   omega
 · intro h
   have:=cL (Tn h g);omega
theorem jH(G:BP rs)(t c:Nat)(hi:Int){r:AU}(g:(BG rs (t:Int) c)[i]?=some r):(Cb (gtV c hi) (BG rs (t:Int) c)<=i->hi<Df r c)/\(i<Cb (gtV c hi) (BG rs (t:Int) c)->Df r c<=hi):=by
 constructor
 · intro h
   have B:=(B9.1 g).1;have m:(BG rs (t:Int) c)[Cb (gtV c hi) (BG rs (t:Int) c)]?=some _:=B4 A1
   have I:=HX (QI m);have h2:=Yv G h m g
   omega
 · intro h
   have:=cL (Tn h g);omega
theorem Tk(g:BP rs)(t c:Nat)(lo hi:Int)(B:lo<=hi):Cb (geV c lo) (BG rs (t:Int) c)<=Cb (gtV c hi) (BG rs (t:Int) c):=by
 rcases Dg (Cb (gtV c hi) (BG rs (t:Int) c)) (Cb (geV c lo) (BG rs (t:Int) c))with h|h
 · have I:=Gu (geV c lo) (BG rs (t:Int) c)
   have m:(BG rs (t:Int) c)[Cb (gtV c hi) (BG rs (t:Int) c)]?=some _:=B4 A1;have G:=(jH g t c hi m).1 (CD _)
   have h2:=(jA g t c lo m).2 h;omega
 · exact h
theorem OJ{l:List AU}{f m:Nat}{r:AU}(h:((l.drop f).take m)[j]?=some r):j<m/\l[f+j]?=some r:=by
 rw [HA]at h;split at h
 · rw [PA]at h;exact ⟨by assumption,h⟩
 · cases h
theorem ik{r:AU}(h:r∈BG rs t c):r∈rs/\r.t=t:=by
 have:=Ek.1 ((EO rs t c _ _).mem_iff.1 h);exact ⟨this.1,jF this.2⟩
theorem NV(m:BP rs)(t c:Nat)(lo hi:Int)(g:lo<=hi):Br (BG rs (t:Int) c) c lo<=toT (BG rs (t:Int) c) c hi/\toT (BG rs (t:Int) c) c hi<=(BG rs (t:Int) c).length/\(0<(BG rs (t:Int) c).length->Br (BG rs (t:Int) c) c lo<toT (BG rs (t:Int) c) c hi):=by
 have B:=Tk m t c lo hi g;have h2:=Gu (geV c lo) (BG rs (t:Int) c)
 have G:=Gu (gtV c hi) (BG rs (t:Int) c);unfold Br toT;omega
theorem kN(m:BP rs)(t c:Nat)(lo hi:Int)(g:lo<=hi):(El rs t c lo hi).rows.length=toT (BG rs (t:Int) c) c hi -Br (BG rs (t:Int) c) c lo:=by
 have:=NV m t c lo hi g;show(((BG rs (t:Int) c).drop _).take _).length=_
 rw [C1,C2];omega
theorem Nu(B:BP rs)(hn:rs.length<=2000)(O:∀r∈rs,r.ok)(t c:Nat)(ht:t<=3)(hc:c<=3)(lo hi:Int)(m:lo<=hi):Ga (El rs t c lo hi):=by
 have h1:=Tk B t c lo hi m;have h2:=Gu (geV c lo) (BG rs (t:Int) c)
 have h3:=Gu (gtV c hi) (BG rs (t:Int) c);have h4:=NV B t c lo hi m
 have I:=kN B t c lo hi m;have ax:=JB B (t:Int) c
 have hf:Br (BG rs (t:Int) c) c lo=Cb (geV c lo) (BG rs (t:Int) c) -1:=rfl;have bn:toT (BG rs (t:Int) c) c hi=min (Cb (gtV c hi) (BG rs (t:Int) c)+1) (BG rs (t:Int) c).length:=rfl
 have hv:∀r:AU,Bl r ((c:Nat):Int)=Df r c:=fun r=>LM r c hc;refine ⟨⟨⟨?_,?_⟩,?_,?_⟩,m,⟨?_,?_⟩,⟨?_,?_⟩,?_,?_,?_,?_,?_⟩
 · show(0:Int)<=(t:Int);omega
 · show(t:Int)<4;omega
 · show(0:Int)<=(c:Int);omega
 · show(c:Int)<4;omega
 · show(0:Int)<=((BG rs (t:Int) c).length:Int);omega
 · show((BG rs (t:Int) c).length:Int)<=2000;omega
 · show(0:Int)<=((Br (BG rs (t:Int) c) c lo:Nat):Int);omega
 · show((Br (BG rs (t:Int) c) c lo:Nat):Int)<=((BG rs (t:Int) c).length:Int);omega
 · rw [I];show _<=((BG rs (t:Int) c).length:Int) -((Br (BG rs (t:Int) c) c lo:Nat):Int);omega
 · rw [I];intro h0;show((BG rs (t:Int) c).length:Int)=0;omega
 · intro j r G
   obtain ⟨X,g⟩:=OJ G;have W:=ik (DE g)
   have K:=jA B t c lo g;have J:=jH B t c hi g
   refine ⟨⟨O r W.1,W.2,?_,?_⟩,?_⟩
   · intro h;change Bl r (c:Int)<lo at h;rw [hv]at h;omega
   · intro h;change hi<Bl r (c:Int)at h;rw [hv]at h;rw [I];omega
   · intro af q hq
     obtain ⟨_,U⟩:=OJ hq;have:=yP (TD B (t:Int) c) A1 U g
     unfold UJ;show Bl q (c:Int)<Bl r (c:Int)\/Bl q (c:Int)=Bl r (c:Int)/\q.k<r.k
     rw [hv,hv];exact this
 · intro r G
   obtain ⟨_,g⟩:=OJ G;have K:=jA B t c lo g
   show((Br (BG rs (t:Int) c) c lo:Nat):Int)=0\/Bl r (c:Int)<lo;rw [hv];omega
 · intro r G
   rw [I]at G⊢;obtain ⟨X,g⟩:=OJ G;have J:=jH B t c hi g
   show((Br (BG rs (t:Int) c) c lo:Nat):Int)+_=((BG rs (t:Int) c).length:Int)\/hi<Bl r (c:Int);rw [hv];omega
theorem dF(G:BP rs)(W:rs.length<=2000)(K:∀r∈rs,r.ok)(t c:Nat)(X:t<=3)(hc:c<=3)(lo hi:Int)(m:lo<=hi):EN (El rs t c lo hi)=(BG rs (t:Int) c).filter (inR (t:Int) c lo hi):=by
 have J:=Nu G W K t c X hc lo hi m;have h4:=NV G t c lo hi m
 have hf:Br (BG rs (t:Int) c) c lo=Cb (geV c lo) (BG rs (t:Int) c) -1:=rfl;have af:toT (BG rs (t:Int) c) c hi=min (Cb (gtV c hi) (BG rs (t:Int) c)+1) (BG rs (t:Int) c).length:=rfl
 have hv:∀r:AU,Bl r ((c:Nat):Int)=Df r c:=fun r=>LM r c hc;rw [dE J];show(((BG rs (t:Int) c).drop (Br (BG rs (t:Int) c) c lo)).take (toT (BG rs (t:Int) c) c hi -Br (BG rs (t:Int) c) c lo)).filter _=_
 have e:BG rs (t:Int) c=(BG rs (t:Int) c).take (Br (BG rs (t:Int) c) c lo)++(((BG rs (t:Int) c).drop (Br (BG rs (t:Int) c) c lo)).take (toT (BG rs (t:Int) c) c hi -Br (BG rs (t:Int) c) c lo)++(BG rs (t:Int) c).drop (toT (BG rs (t:Int) c) c hi)):=by
  have e1:(BG rs (t:Int) c).drop (toT (BG rs (t:Int) c) c hi)=((BG rs (t:Int) c).drop (Br (BG rs (t:Int) c) c lo)).drop (toT (BG rs (t:Int) c) c hi -Br (BG rs (t:Int) c) c lo):=by
   rw [Ys];congr 1;omega
  rw [e1,I3,I3]
 conv=>rhs;rw [e]
 rw [Hh,Hh];have z1:((BG rs (t:Int) c).take (Br (BG rs (t:Int) c) c lo)).filter (inR (t:Int) c lo hi)=[]:=by
  rw [j1];intro r B I;obtain ⟨i,g⟩:=GW B;rw [HA]at g;split at g
  · have:=(jA G t c lo g).2 A1
    have:=HX I;omega
  · cases g
 have z2:((BG rs (t:Int) c).drop (toT (BG rs (t:Int) c) c hi)).filter (inR (t:Int) c lo hi)=[]:=by
  rw [j1];intro r B I;obtain ⟨i,g⟩:=GW B;rw [PA]at g;have O:=(B9.1 g).1
  have:=(jH G t c hi g).1 A1;have:=HX I
  omega
 rw [z1,z2,Ks,DB];refine fz ?_;intro r B;have U:=ik (ID (On B))
 unfold inB inR;show decide (lo<=Bl r (c:Int)/\Bl r (c:Int)<=hi)=_
 rw [hv];exact decide_eq_decide.2 ⟨fun h=>⟨U.2,h⟩,fun h=>h.2⟩
theorem tT(B:BP rs)(m:∀r∈rs,r.ok)(t c:Nat)(W:t<=3)(hc:c<=3)(lo hi:Int)(J:lo<=hi):(BG rs (t:Int) c).filter (inR (t:Int) c lo hi)=Dq rs (t:Int) c lo hi:=by
 refine VK B ?_ ?_
 · have g:=(EO rs (t:Int) c (-1000000000) 1000000000).filter (inR (t:Int) c lo hi)
   refine g.trans ?_;rw [List.filter_filter];refine List.Perm.of_eq (fz ?_);intro r K;obtain ⟨⟨g,h2,G⟩,O,U⟩:=m r K;unfold inV at g h2 G;have I:-1000000000<=Df r c/\Df r c<=1000000000:=by
    unfold Df;split
    · omega
    · split
      · omega
      · split<;>omega
   unfold inR;rw [<-Bool.decide_and];exact decide_eq_decide.2 ⟨fun h=>h.1,fun h=>⟨h,h.1,I⟩⟩
 · exact (Ej B (t:Int) c (-1000000000) 1000000000).filter _
theorem SF(B:BP rs)(I:rs.length<=2000)(m:∀r∈rs,r.ok)(t c:Nat)(G:t<=3)(hc:c<=3)(lo hi:Int)(g:lo<=hi):EN (El rs t c lo hi)=Dq rs (t:Int) c lo hi:=by rw [dF B I m t c G hc lo hi g,tT B m t c G hc lo hi g]
def CG(c:Int)(n:Nat):Nat:=((if c<0 then-(c+1)else c).tmod n).toNat
theorem EF(c:Int)(n:Nat)(B:0<n):CG c n<n:=by
 unfold CG;have g:0<=(if c<0 then-(c+1)else c):=by split<;>omega
 have h2:=Int.tmod_lt_of_pos (if c<0 then-(c+1)else c) (b:=(n:Int)) A1;have m:=Int.tmod_nonneg (n:Int) g
 omega
theorem Yd(c:Int)(n:Nat):(if c<0 then-(c+1)else c).tmod n=(CG c n:Int):=by
 unfold CG;have g:0<=(if c<0 then-(c+1)else c):=by split<;>omega
 have m:=Int.tmod_nonneg (n:Int) g;omega
theorem wF{c:Chg}{x:AU}(h:x∈EI rs c):x∈rs\/(c.has=true/\x=⟨c.t,c.k,c.n⟩):=by
 unfold EI at h;rcases BE.1 h with h|h
 · rcases BE.1 h with h|h
   · exact .inl (On h)
   · exact .inr (Lr.1 h)
 · exact .inl (ID (ID h))
theorem xY{c:Chg}(h:c.ok)(g:c.has=true):AU.ok ⟨c.t,c.k,c.n⟩:=by
 obtain ⟨_,h2,_⟩:=h;rw [Ky g]at h2;exact HT.1 fun m=>h2 (.inr ⟨g,m⟩)
theorem VM:∀(cs:List Chg) (rs:List AU),(∀r∈rs,r.ok)->(∀c∈cs,c.ok)->∀r∈DN rs cs,r.ok
 |[],rs,h,_=>h
 |c::cs,rs,h,hc=>by
  have B:∀r∈EI rs c,r.ok:=fun r m=>by
   rcases wF m with m|⟨hh,rfl⟩
   · exact h r m
   · exact xY (hc c B0) hh
  exact VM cs (EI rs c) B (fun c g=>hc c (by simp [g]))
variable{l:List BU}
theorem F6.rowsOk(h:F6 l):∀i,i<=l.length->∀r∈Bd (l.take i),r.ok
 |0,_=>by intro r g;simp [Bd]at g
 |i+1,hi=>by
  obtain ⟨r,g⟩:∃r,l[i]?=some r:=⟨_,B4 A1⟩;rw [Bn g,Gf];refine VM _ _ (F6.rowsOk h i A1) fun c hc=>?_;obtain ⟨j,m⟩:=GW hc;exact (h i r g).1.ok.all j c m
variable{M:List A9}{p:Option Addr}{cap n:Nat}
theorem oP{xs:List (List Int)}(h:WK M (.slice p n cap) xs)(k:Nat)(G:k<=n):WK M (.slice p k cap) (xs.take k):=by
 obtain ⟨J,g,e,I,B⟩:=h;injection e with e1 e2 e3
 subst e1 e2 e3;have m:(xs.take k).length=k:=by rw [C1];exact N3 G
 refine ⟨p,cap,by rw [m],by omega,fun i z hz=>B i z ?_⟩;rw [HA]at hz;split at hz
 · exact hz
 · cases hz
def cs0:List Chg:=[⟨0,3,false,V3.zero,true,⟨10,0,0⟩⟩,⟨0,5,false,V3.zero,true,⟨10,21,30⟩⟩]
def l0(gc:Nat):List BU:=[⟨1,some ⟨gc,0,none⟩,2,cs0⟩]
def RP.cut(x:RP):RP:=⟨x.tb,x.cl,x.lo,x.hi,x.ct,x.fi,x.rows.drop 1,x.paths.drop 1,x.roots⟩
variable{v:Value}{x:RP}
theorem yw(hv:Xt M v x)(h:Ga x){l:List AU}(G:EN x=l):BZ prog 218 #[v] [M] (fun r H'=>∃B m,r= .tuple #[B,.bool true]/\Bb 5 83 B l.length (Af l) m/\H'=[m,M]):=by
 have g:=jr hv;rw [CM h,G]at g;exact g
variable{M':List A9}
theorem Xt.mono(h:Xt M v x)(g:∀c∈M,c∈M'):Xt M' v x:=by
 obtain ⟨I,G,J,e,m,h2,B⟩:=h;exact ⟨I,G,J,e,m.mono g,h2.mono g,B.mono g⟩
theorem Sd:∀(n:Nat) (l:List Bs) (i:Nat),l.length<=n->(FC l i).length<=l.length
 |n,l,i,hn=>by
  rcases Dg l.length 2 with h|h
  · rw [VO A1];simp
  · have m:=Ox h
    have h2:=Ow l.length
    match n,hn with
    |0,hn=>omega
    |n+1,hn=>
    by_cases hi:i<DY l.length
    · have g:=Sd n (l.take (DY l.length)) i (by rw [C1];omega)
      rw [C1]at g;rw [Qc h hi,B7];simp only [E7];omega
    · have g:=Sd n (l.drop (DY l.length)) (i -DY l.length) (by rw [C2];omega)
      rw [C2]at g;rw [Oe h hi,B7];simp only [E7];omega
theorem YY(m:BP rs)(B:rs.length<=2000)(t c:Nat)(lo hi:Int):∀l∈(El rs t c lo hi).paths,l.length<=1000000:=by
 intro l h;obtain ⟨x,_,rfl⟩:=Bk.1 h;have g:=Sd _ (Nr (BG rs (t:Int) c)) (Br (BG rs (t:Int) c) c lo+x) (CD _)
 have h2:=JB m (t:Int) c;rw [GL]at g;omega
theorem yj(q:QM)(m:BJ q):BI prog 178 #[.agg q.A30] [] (.tuple #[I4 q.tb,I4 q.cl,I4 q.lo,I4 q.hi]):=by
 refine Se func178 ntmps178 [0] ?_;intro u R;refine A0<|Ze (Bx q.A30)<|AD fun bq=>Za Y<|Za Y<|Za Y<|A3 Y<|Zq<|A0<|Zo Wh (AA (cs:=#[_,_,_,_,_,_,_]) E4 CC Y Ax AN) ?_;refine Xr [_] Y call34 Y V (JY q) ?_;refine Zv (Cm Y)<|A4<|AX Y (fun g=>?_) (fun g=>?_)
 ·
  exfalso;simp [m]at g
 refine AC<|Zx<|Zq<|Az (n:=12) (0::1::0::4::0::16::0::64::3::271::831::2047::[]) 0 A6 A6 V<|A2 0 V (AB (off:=1) CA V rfl A5 Y)<|B3 1 V AE Y ?_;refine A2 2 V (AB (off:=2) CA V rfl A5 Y)<|B3 3 V AE Y ?_;refine A2 4 V (AB (off:=3) CA V rfl A5 Y)<|B3 5 V AE Y ?_;refine A2 6 V (AB (off:=4) CA V rfl A5 Y)<|B3 7 V AE Y ?_;refine A2 8 V (Aw Y)<|A2 9 V (Aw Y)<|A2 10 V (Aw Y)<|A2 11 V (Aw Y)<|Ah<|Zn [2,3,4,5] ?_;refine Zx<|AJ<|il V results178 Y Y Y Y (by exact ⟨V,V⟩)
theorem oE(q:QM)(g:BJ q):BI prog 104 #[.agg q.A30] [] (.agg #[I4 q.tb,I4 q.cl,I4 q.lo,I4 q.hi]):=by
 refine Se func104 ntmps104 [0] ?_;intro u R;refine A0<|Ze (Bx q.A30)<|AD fun bq=>Ze (Al ie #[_,_,_,_])<|AD fun m=>A4<|A0<|Zo Wh (AA (cs:=#[_,_,_,_,_,_,_]) E4 CC Y Ax AN) ?_;refine Xr [_] Y call178 Y V (yj q g) ?_;refine Zm Y<|Zd Y V<|Zd Y V<|Zd Y V<|Zd Y V<|Zh 0 N4 V rfl A5 Y<|Xe (Zs A5 Y Y V (hi:=by decide)) ?_;refine Zh 1 N4 V rfl A5 Y<|Xe (Zs A5 Y Y V (hi:=by(simp;done))) ?_;refine Zh 2 N4 V rfl A5 Y<|Xe (Zs A5 Y Y V (hi:=by(simp;done))) ?_;refine Zh 3 N4 V rfl A5 Y<|Xe (Zs A5 Y Y V (hi:=by(simp;done))) ?_;refine Z0<|Zn [2] ?_;refine Zx<|A0<|Zo Wh (AA (cs:=#[_,_,_,_]) isAgg202 cE Y Ax (by exact BM V)) ?_;refine Xe (BK cE Y Y HJ Wu (by exact Du rfl) E3 Ax (by exact BA _)) ?_;refine A4<|AJ<|Cw V results104 Y Wh (Ak isAgg202 cE Wn (BM V)) (by exact ⟨V,V⟩)
theorem UT{P:Program}{env:Env}{d:Option Nat}{ty:TypeId}{pos:String}{af:Array Edge}{g:Option (Nat×Bool)}{x:Operand}{m at_:TypeId}{ok:Bool}{r:Value}(G:∀a,ev a env x=v)(B:∀w:World,(Instr.typeAssert v m at_ ok).run P w= .ok r w):OpP P ⟨d,.typeAssert x m at_ ok,ty,pos,af,g⟩ env [] r:=fun a w _=>by
 simp [execOp,G a,B w]
theorem zJ(w:World):(Instr.typeAssert .nilIface 20 101 true).run prog w= .ok (.tuple #[.nilIface,.bool false]) w:=by kernel_rfl
theorem ZW{u w:World}{H:Hp}{b:Nat}{o:Obj}(h:Has b o H)(g:Sat u H w):w.heap[b]?=some o:=g.get _ h.mem
variable{q:QM}
theorem mO(m:BJ q)(g:q.kd≠7):IV q (Dq rs q.tb q.cl.toNat q.lo q.hi) []=Cj rs q:=by
 rw [PE m];unfold Cj FN CS;split
 · rfl
 · split
   · rfl
   · split
     · rfl
     · split
       · rfl
       · first
         |rfl
         |(split
           · rename_i h;exact absurd h g
           · rfl)
theorem yo(G:BP rs)(B:rs.length<=2000)(g:∀r∈rs,r.ok)(q:QM)(I:BJ q):Ga (El rs q.tb.toNat q.cl.toNat q.lo q.hi)/\EN (El rs q.tb.toNat q.cl.toNat q.lo q.hi)=Dq rs q.tb q.cl.toNat q.lo q.hi:=by
 obtain ⟨J,h2,m,_⟩:=id I;refine ⟨Nu G B g q.tb.toNat q.cl.toNat A1 A1 q.lo q.hi m.2.1,?_⟩;have h:=SF G B g q.tb.toNat q.cl.toNat A1 A1 q.lo q.hi m.2.1
 rwa [show((q.tb.toNat:Nat):Int)=q.tb by omega]at h
theorem qB(g:BJ q):(El rs q.tb.toNat q.cl.toNat q.lo q.hi).tb=q.tb/\(El rs q.tb.toNat q.cl.toNat q.lo q.hi).cl=q.cl/\(El rs q.tb.toNat q.cl.toNat q.lo q.hi).lo=q.lo/\(El rs q.tb.toNat q.cl.toNat q.lo q.hi).hi=q.hi:=by
 obtain ⟨m,h2,_⟩:=id g;exact ⟨show((q.tb.toNat:Nat):Int)=q.tb by omega,show((q.cl.toNat:Nat):Int)=q.cl by omega,V,V⟩
theorem KM:BI prog 159 #[.bool true] [] undef:=by
 refine Se func159 ntmps159 [0] ?_;intro u R;refine A0<|Zm Y<|Zv (Bo Y)<|A4<|AX Y (fun g=>by cases g)<|fun g=>AC<|Cz V results159 (by exact ⟨V,V⟩)
theorem xc(pk:Value):PU prog 158 #[pk] .returning .returning [] (fun H'=>H'=[]):=by
 refine YC (env1:=[(3,.bool false),(2,.nilIface),(8,.bool false),(7,.nilIface),(4,.tuple #[.nilIface,.bool false]),(6,.tuple #[.nilIface,.bool false]),(5,.nilIface),(0,pk)]) func158 V ntmps158 V results158 ?hrec_1 ?hwalk_1
 case hrec_1=>
  intro u R c cs Q m G;show nZ _ _ [0,1,2,3,4,5,6] _ _ _ _ _
  have g:({c with mode:= .returning}:Frame)=c:=by cases c;simp only at m;subst m;rfl
  rw [g]at G;refine eO V (by simp [recoverD,m]) V ?_;refine QC V (UT Y zJ) V ?_;refine QC V (AO Y) V ?_;refine QC V (C8 Y V) V ?_;refine QC V (C8 Y V) V ?_;refine QC V (Aw Y) V ?_;refine QC V (Aw Y) V ?_;intro a w I;exact G a w I
 intro u R;refine Zb [0,2,3] ?_;refine A0<|Zm Y<|Zm Y<|Ag (t:=10) Y V (fun B=>by cases B)<|fun B=>A7 Y V<|A7 Y V<|A7 Y V<|Zv (AL Y Y)<|A4<|Ch Y<|AC<|Cz V results158 AN
theorem yc(g:Nat)(B:Value):PU prog 157 #[I5 g,B] .returning .returning [[(g,.cells #[.bool true] 4 (0,0))]] (fun H'=>H'=[[(g,.cells #[.bool true] 4 (0,0))]]):=by
 refine aW func157 V ntmps157 V ?_;intro u R;refine Zb [0,1] ?_;refine A0<|Zl E0 Y ?_;refine Zv (Bo Y)<|A4<|AX Y (fun m=>by cases m)<|fun m=>AC<|Cz V results157 AN
structure RPZ where
 x:RP
 qr:Option Addr
 cr:Nat
 qp:Option Addr
 cp:Nat
 qt:Option Addr
 ct:Nat
def Ef(z:RPZ):List Value:=[I4 z.x.tb,I4 z.x.cl,I4 z.x.lo,I4 z.x.hi,I4 z.x.ct,I4 z.x.fi,.slice z.qr z.x.rows.length z.cr,.slice z.qp z.x.paths.length z.cp,.slice z.qt z.x.roots.length z.ct]
def RPZ.ok(M:List A9)(z:RPZ):Prop:=De M (.slice z.qr z.x.rows.length z.cr) z.x.rows/\MF M (.slice z.qp z.x.paths.length z.cp) z.x.paths/\ET M (.slice z.qt z.x.roots.length z.ct) z.x.roots
theorem yn(h:Xt M v x):∃z:RPZ,z.x=x/\z.ok M/\v= .agg #[I4 z.x.tb,I4 z.x.cl,I4 z.x.lo,I4 z.x.hi,I4 z.x.ct,I4 z.x.fi,.slice z.qr z.x.rows.length z.cr,.slice z.qp z.x.paths.length z.cp,.slice z.qt z.x.roots.length z.ct]:=by
 obtain ⟨K,J,O,rfl,g,h2,m⟩:=h;obtain ⟨qr,cr,rfl,B⟩:=id g;obtain ⟨qp,cp,rfl,G⟩:=id h2;obtain ⟨qt,ct,rfl,I⟩:=id m;exact ⟨⟨x,qr,cr,qp,cp,qt,ct⟩,V,⟨g,h2,m⟩,V⟩
theorem RPZ.ok.mono{z:RPZ}(h:z.ok M)(g:∀c∈M,c∈M'):z.ok M':=⟨h.1.mono g,h.2.1.mono g,h.2.2.mono g⟩
theorem RPZ.ok.rp{z:RPZ}(h:z.ok M):Xt M (.agg #[I4 z.x.tb,I4 z.x.cl,I4 z.x.lo,I4 z.x.hi,I4 z.x.ct,I4 z.x.fi,.slice z.qr z.x.rows.length z.cr,.slice z.qp z.x.paths.length z.cp,.slice z.qt z.x.roots.length z.ct]) z.x:=⟨_,_,_,rfl,h⟩
def ZsU(M:List A9)(v:Value)(Z:List RPZ):Prop:=∃p cap,v= .slice p Z.length cap/\(Z.length<=maxLen/\Z.length<=cap)/\∀(i:Nat) (z:RPZ),Z[i]?=some z->z.ok M/\∃g off cur T zz,p=some ⟨g,off,none⟩/\(g,Obj.cells cur T zz)∈M/\off+i*9+9<=cur.size/\cur.extract (off+i*9) (off+i*9+9)=#[I4 z.x.tb,I4 z.x.cl,I4 z.x.lo,I4 z.x.hi,I4 z.x.ct,I4 z.x.fi,.slice z.qr z.x.rows.length z.cr,.slice z.qp z.x.paths.length z.cp,.slice z.qt z.x.roots.length z.ct]
def G8(M:List A9)(v:Value)(L:List RP):Prop:=∃Z,ZsU M v Z/\Z.map RPZ.x=L
variable{Z:List RPZ}
theorem ZsU.mono(h:ZsU M v Z)(m:∀c∈M,c∈M'):ZsU M' v Z:=by
 obtain ⟨p,cap,e,K,J⟩:=h;refine ⟨p,cap,e,K,fun i z hz=>?_⟩;obtain ⟨h2,g,off,cur,T,zz,B,G,I⟩:=J i z hz;exact ⟨h2.mono m,g,off,cur,T,zz,B,m _ G,I⟩
variable{L:List RP}
theorem G8.mono(h:G8 M v L)(m:∀c∈M,c∈M'):G8 M' v L:=by
 obtain ⟨Z,g,h2⟩:=h;exact ⟨Z,g.mono m,h2⟩
variable{s:List A9}
theorem WO{B:List A9}(h:Bb 9 152 v Z.length (Z.flatMap Ef) s)(J:Z.length<=maxLen)(I:∀z∈Z,z.ok B):ZsU (s++B) v Z:=by
 obtain ⟨b,cap,rfl⟩:=h.form;refine ⟨b,cap,V,⟨J,Et h⟩,fun i z hz=>⟨(I z (DE hz)).mono (fun c hc=>Fm _ hc),?_⟩⟩;obtain ⟨g,G,cur,zz,hv,rfl,K,m⟩:=J7 h i (B9.1 hz).1;injection hv with hv1 hv2 hv3
 refine ⟨g,0,cur,152,zz,hv1,DP _ (BT.2 V),by omega,?_⟩;rw [Cl];apply HC.1;rw [m];exact IG _ 9 (fun _=>rfl) Z i z hz
theorem ol{g:List A9}(h:Bb 9 152 v Z.length (Z.flatMap Ef) s)(B:Z.length<=maxLen)(m:∀z∈Z,z.ok g):G8 (s++g) v (Z.map RPZ.x):=⟨Z,WO h B m,rfl⟩
theorem G8.form(h:G8 M v L):∃p cap,v= .slice p L.length cap/\L.length<=maxLen/\L.length<=cap:=by
 obtain ⟨Z,⟨p,cap,e,g,_⟩,rfl⟩:=h;rw [B2];exact ⟨p,cap,e,g⟩
theorem G8.at{M:List A9}{p:Option Addr}{n cap:Nat}{L:List RP}(h:G8 M (.slice p n cap) L){i:Nat}{x:RP}(m:L[i]?=some x):∃z:RPZ,z.x=x/\z.ok M/\∃g off cur T zz,p=some ⟨g,off,none⟩/\(g,Obj.cells cur T zz)∈M/\off+i*9+9<=cur.size/\cur.extract (off+i*9) (off+i*9+9)=#[I4 z.x.tb,I4 z.x.cl,I4 z.x.lo,I4 z.x.hi,I4 z.x.ct,I4 z.x.fi,.slice z.qr z.x.rows.length z.cr,.slice z.qp z.x.paths.length z.cp,.slice z.qt z.x.roots.length z.ct]:=by
 obtain ⟨Z,⟨I,B,e,_,G⟩,rfl⟩:=h;injection e with e1 e2 e3
 subst e1;rw [DM]at m;cases hz:Z[i]?with
 |none=>rw [hz]at m;cases m
 |some z=>
  rw [hz]at m;injection m with m
  exact ⟨z,m,G i z hz⟩
theorem G8.tail(h:G8 M (.slice p n cap) (x::L)):G8 M (.slice (ES p 1 cap 9) (n -1) (cap -1)) L:=by
 obtain ⟨Z,⟨X,J,e,⟨I,m⟩,G⟩,B⟩:=h;injection e with e1 e2 e3
 subst e1 e2 e3
 match Z,B,I,m,G with
 |z::Z,B,I,m,G=>
  injection B with hZ1 hZ2
  rw [DH]at I m;refine ⟨Z,⟨_,_,by rw [DH,RM],⟨by omega,by omega⟩,fun i y K=>?_⟩,hZ2⟩;obtain ⟨h2,g,off,cur,T,zz,rfl,O,W,U⟩:=G (i+1) y (by simpa using K);have hi:=(B9.1 K).1
  refine ⟨h2,g,off+1*9,cur,T,zz,?_,O,by omega,by rw [show off+1*9+i*9=off+(i+1)*9 by omega];exact U⟩;unfold ES;rw [AK A1,N2,CX]
def X6(q:QM)(r:AU):Int×Int×Int×Int:=(q.ot,0,Bl r q.bq,Bl r q.bq)
def YF(q:QM):Int×Int×Int×Int:=(q.tb,q.cl,q.lo,q.hi)
def RP.scan(x:RP):Int×Int×Int×Int:=(x.tb,x.cl,x.lo,x.hi)
noncomputable def Od(s:Int×Int×Int×Int):List RP->Option (List AU×List RP)
 |[]=>none
 |x::l=>if x.scan=s/\Ga x then some (EN x,l)else none
noncomputable def Ei(q:QM):List AU->List RP->Option (List AU×List RP)
 |[],l=>some ([],l)
 |r::rs,l=>(Od (X6 q r) l).bind fun a=>(Ei q rs a.2).map fun b=>(a.1++b.1,b.2)
noncomputable def EX(q:QM)(L:List RP):Option CE:=
 if BJ q then(Od (YF q) L).bind fun a=>if a.1.length<=100 then(if q.kd=7 then Ei q a.1 a.2 else some ([],a.2)).bind fun b=>if b.2=[]then some (FN q a.1 b.1)else none else none else none
theorem SN{s:Int×Int×Int×Int}{a:List AU×List RP}(h:Od s L=some a):∃x,L=x::a.2/\x.scan=s/\Ga x/\a.1=EN x:=by
 unfold Od at h;split at h
 · cases h
 · split at h
   · rename_i x l h9
     injection h with h
     subst h;exact ⟨x,V,h9.1,h9.2,V⟩
   · cases h
theorem VG{s:Int×Int×Int×Int}{l:List RP}(g:x.scan=s)(h2:Ga x):Od s (x::l)=some (EN x,l):=AM ⟨g,h2⟩
theorem Le{r:AU}{l:List RP}{b:List AU×List RP}(h:Ei q (r::rs) l=some b):∃a c,Od (X6 q r) l=some a/\Ei q rs a.2=some c/\b=(a.1++c.1,c.2):=by
 unfold Ei at h;cases ha:Od (X6 q r) l with
 |none=>rw [ha]at h;cases h
 |some a=>
  rw [ha,IF]at h;cases hc:Ei q rs a.2 with
  |none=>rw [hc]at h;cases h
  |some c=>rw [hc]at h;injection h with h;exact ⟨a,c,rfl,hc,h.symm⟩
theorem Oc{q:QM}:∀(rows:List AU) (i:Nat) (L:List RP) (b:List AU×List RP),i<=rows.length->Ei q rows L=some b->∃o g,Ei q (rows.take i) L=some (o,g)/\∃m,Ei q (rows.drop i) g=some (m,b.2)/\b.1=o++m
 |rows,0,L,b,_,h=>⟨[],L,rfl,b.1,by rw [Pr];exact h,rfl⟩
 |r::rows,i+1,L,b,hi,h=>by
  obtain ⟨a,c,B,h2,rfl⟩:=Le h;obtain ⟨o,g,G,m,I,J⟩:=Oc rows i a.2 c (by simpa using hi) h2;refine ⟨a.1++o,g,?_,m,by rw [List.drop_succ_cons];exact I,by rw [J,CN]⟩;rw [ju];unfold Ei;rw [B,IF,G];rfl
theorem Qa{q:QM}:∀(rows:List AU) (i:Nat) (r:AU) (L l':List RP) (o:List AU) (a:List AU×List RP),rows[i]?=some r->Ei q (rows.take i) L=some (o,l')->Od (X6 q r) l'=some a->Ei q (rows.take (i+1)) L=some (o++a.1,a.2)
 |r9::rows,0,r,L,l',o,a,hr,h,ha=>by
  injection hr with hr
  subst hr;injection h with h
  injection h with g h2
  subst g h2;show Ei q [r9] L=_
  unfold Ei;rw [ha,IF];show some (a.1++[],a.2)=some ([]++a.1,a.2)
  rw [DB,Ks]
 |r9::rows,i+1,r,L,l',o,a,hr,h,ha=>by
  rw [ju]at h⊢;obtain ⟨G,B,g,h2,m⟩:=Le h;injection m with m h4
  have:=Qa rows i r G.2 B.2 B.1 a (by simpa using hr) h2 (by rw [<-h4];exact ha);unfold Ei;rw [g,IF,this,m,CN];rfl
variable{r:CE}
theorem QT(h:EX q L=some r):∃x g,L=x::g/\BJ q/\x.scan=YF q/\Ga x/\(EN x).length<=100/\((q.kd≠7/\g=[]/\r=FN q (EN x) [])\/(q.kd=7/\∃o,Ei q (EN x) g=some (o,[])/\r=FN q (EN x) o)):=by
 unfold EX at h;split at h
 · rename_i hq
   cases ha:Od (YF q) L with
   |none=>rw [ha]at h;cases h
   |some a=>
    obtain ⟨x,m,h2,B,G⟩:=SN ha;rw [ha,IF]at h;split at h
    · rename_i h5
      rw [G]at h5 h;refine ⟨x,a.2,m,hq,h2,B,h5,?_⟩;split at h
      · rename_i h7
        cases hb:Ei q (EN x) a.2 with
        |none=>rw [hb]at h;cases h
        |some b=>
         rw [hb,IF]at h;split at h
         · rename_i h8
           injection h with h
           exact .inr ⟨h7,b.1,by rw [<-h8],h.symm⟩
         · cases h
      · rename_i h7
        rw [IF]at h;split at h
        · rename_i h8
          injection h with h
          exact .inl ⟨h7,h8,h.symm⟩
        · cases h
    · cases h
 · cases h
def Fg(rs:List AU)(q:QM):List RP:=El rs q.tb.toNat q.cl.toNat q.lo q.hi::(if q.kd=7 then(CS rs q).map fun r=>El rs q.ot.toNat 0 (Bl r q.bq) (Bl r q.bq)else [])
theorem SL{rs:List AU}(B:BP rs)(m:rs.length<=2000)(g:∀r∈rs,r.ok){q:QM}(J:0<=q.ot/\q.ot<=3):∀l:List AU,Ei q l (l.map fun r=>El rs q.ot.toNat 0 (Bl r q.bq) (Bl r q.bq))=some (l.flatMap fun r=>Dq rs q.ot 0 (Bl r q.bq) (Bl r q.bq),[])
 |[]=>rfl
 |r::l=>by
  have e:((q.ot.toNat:Nat):Int)=q.ot:=by omega
  have G:=Nu B m g q.ot.toNat 0 A1 A1 (Bl r q.bq) (Bl r q.bq) (Z1 _);have h2:=SF B m g q.ot.toNat 0 A1 A1 (Bl r q.bq) (Bl r q.bq) (Z1 _)
  have I:=SL B m g J l;rw [e]at h2;unfold Ei;rw [DQ,VG (by show(((q.ot.toNat:Nat):Int),((0:Nat):Int),_,_)=(_,_,_,_);rw [e];rfl) G,IF];simp only [I,h2,N2,HL]
theorem mV{f:AU->Bool}{g:AU->List AU}{y:AU}(G:∀a b,f a=true->f b=true->(∃r,a∈g r)->(∃r,b∈g r)->a=b):∀l:List AU,(∃r∈l,y∈g r)->f y=true->(l.flatMap g).find? f=some y:=fun l ⟨r,I,m⟩ h=>by
 cases hfi:(l.flatMap g).find? f with
 |none=>exact absurd h (by simpa using k8.1 hfi y (Rg.2 ⟨r,I,m⟩))
 |some x=>
  have B:=kf (p:=f) hfi;obtain ⟨K,_,J⟩:=Rg.1 (iv hfi);rw [G x y B h ⟨K,J⟩ ⟨r,m⟩]
theorem bY(G:BP rs)(hn:rs.length<=2000)(J:∀r∈rs,r.ok)(m:BJ q)(hl:(CS rs q).length<=100):EX q (Fg rs q)=some (Cj rs q):=by
 have hk:=m.2.2.2;have hc:=m.2.1
 have ht:=m.1;obtain ⟨U,h2⟩:=yo G hn J q m;have O:=qB (rs:=rs) m
 have ax:(El rs q.tb.toNat q.cl.toNat q.lo q.hi).scan=YF q:=by unfold RP.scan YF;rw [O.1,O.2.1,O.2.2.1,O.2.2.2]
 unfold EX Fg;rw [AM m,VG ax U,IF];simp only [h2];rw [show Dq rs q.tb q.cl.toNat q.lo q.hi=CS rs q from rfl,AM hl];by_cases B:q.kd=7
 · rw [AM B,AM B,SL G hn J A1,IF,AM rfl]
   unfold Cj FN;simp only [AK (show¬q.kd=3 by omega),AK (show¬q.kd=4 by omega),AK (show¬q.kd=5 by omega),AK (show¬q.kd=6 by omega),AM B];congr 2;unfold Ij;have g:∀k x,x∈Dq rs q.ot 0 k k↔x∈rs/\x.t=q.ot/\x.k=k:=fun k x=>by
    rw [(EO rs q.ot 0 k k).mem_iff,Ek];unfold inR Df;rw [G1,AM rfl];constructor
    · rintro ⟨a,b,c,d⟩;exact ⟨a,b,by omega⟩
    · rintro ⟨a,b,c⟩;exact ⟨a,b,by omega,by omega⟩
   have af:∀r∈CS rs q,Ii q ((CS rs q).flatMap fun r=>Dq rs q.ot 0 (Bl r q.bq) (Bl r q.bq)) r=Ii q (IK rs q.ot) r:=fun r hr=>by
    unfold Ii
    suffices e:Da q ((CS rs q).flatMap fun r=>Dq rs q.ot 0 (Bl r q.bq) (Bl r q.bq)) (Bl r q.bq)=Da q (IK rs q.ot) (Bl r q.bq) by rw [e]
    cases hp:Da q (IK rs q.ot) (Bl r q.bq)with
    |none=>
     unfold Da;refine k8.2 fun x K I=>?_;obtain ⟨r',_,K⟩:=Rg.1 K;have W:=(g _ x).1 K
     have X:x.t=q.ot/\x.k=Bl r q.bq:=by simpa using I
     have:=(Ff G (q:=q) (Bl r q.bq) x).2 ⟨W.1,X⟩;rw [hp]at this;cases this
    |some x=>
     have I:=(Ff G (q:=q) (Bl r q.bq) x).1 hp;unfold Da;refine mV (fun a b ha hb ⟨r1,U⟩ ⟨r2,h2⟩=>?_) _ ⟨r,hr,(g _ x).2 ⟨I.1,I.2⟩⟩ (CM I.2);have a1:=(g _ a).1 U
     have b1:=(g _ b).1 h2;have a2:a.t=q.ot/\a.k=Bl r q.bq:=by simpa using ha
     have b2:b.t=q.ot/\b.k=Bl r q.bq:=by simpa using hb
     have a3:=(Ff G (q:=q) (Bl r q.bq) a).2 ⟨a1.1,a2⟩;have b3:=(Ff G (q:=q) (Bl r q.bq) b).2 ⟨b1.1,b2⟩
     rw [a3]at b3;injection b3
   have:∀l:List AU,(∀r∈l,Ii q ((CS rs q).flatMap fun r=>Dq rs q.ot 0 (Bl r q.bq) (Bl r q.bq)) r=Ii q (IK rs q.ot) r)->l.flatMap (Ii q ((CS rs q).flatMap fun r=>Dq rs q.ot 0 (Bl r q.bq) (Bl r q.bq)))=l.flatMap (Ii q (IK rs q.ot)):=fun l=>by
    induction l with
    |nil=>intro _;rfl
    |cons r l ih=>intro h;rw [HL,HL,h r B0,ih fun x K=>h x (by simp [K])]
   exact this _ af
 · rw [AK B,AK B,IF,AM rfl]
   rw [<-mO m B,PE m];rfl
theorem wH(v:Value)(p:Int)(rs:List AU)(s:List A9)(hv:RG v p rs s)(O:BP rs)(K:rs.length<=2000)(B:∀r∈rs,r.ok)(t c lo hi:Int)(U:0<=t/\t<=3)(hc:0<=c/\c<=3)(m:lo<=hi)(g:TypeId)(G:Nat×Nat):
 BZ prog 103 #[v,I4 t,I4 c,I4 lo,I4 hi] [[(4,.cells (Eo.map Ct).toArray g G)],s] (fun r H'=>∃(z:RPZ) (mem:List A9),z.x=El rs t.toNat c.toNat lo hi/\z.ok mem/\r= .tuple #[.agg #[I4 z.x.tb,I4 z.x.cl,I4 z.x.lo,I4 z.x.hi,I4 z.x.ct,I4 z.x.fi,.slice z.qr z.x.rows.length z.cr,.slice z.qp z.x.paths.length z.cp,.slice z.qt z.x.roots.length z.ct],I4 0]/\H'=[mem,[(4,.cells (Eo.map Ct).toArray g G)],s]):=by
 have h:=dQ v p rs s hv O K B t.toNat c.toNat A1 A1 lo hi m g G;rw [show((t.toNat:Nat):Int)=t by omega,show((c.toNat:Nat):Int)=c by omega]at h;refine h.mono ?_;rintro r H' ⟨W,mem,rfl,J,rfl⟩;obtain ⟨z,I,h2,rfl⟩:=yn J;exact ⟨z,mem,I,h2,V,V⟩
theorem yA(Z:List RPZ):∀u∈Z.flatMap Ef,u.oneCell'=true:=by
 intro u g;obtain ⟨z,_,h⟩:=Rg.1 g;unfold Ef at h;simp only [D2,RT,RC]at h;rcases h with rfl|rfl|rfl|rfl|rfl|rfl|rfl|rfl|rfl<;>rfl
theorem zw(Z:List RPZ):(Z.flatMap Ef).length=Z.length*9:=by
 induction Z with
 |nil=>rfl
 |cons z Z ih=>rw [HL,B7,ih,DH];show 9+_=_;omega
theorem Sn(q:QM)(g:0<=q.bq/\q.bq<=3)(r:AU):BI prog 106 #[.agg q.A30,.agg r.A29] [] (.agg #[I4 q.ot,I4 0,I4 (Bl r q.bq),I4 (Bl r q.bq)]):=by
 refine Se func106 ntmps106 [0,1] ?_;intro u R;refine A0<|Ze (Bx q.A30)<|AD fun bq=>Ze (Bx #[_,_,_,_,_])<|AD fun B=>Ze (Al ie #[_,_,_,_])<|AD fun m=>A4<|A0<|Zo Wh (AA (cs:=#[_,_,_,_,_]) CI An Y Ax (by exact BM V)) ?_;refine Zh 5 CA V rfl A5 Y<|Zl AE Y ?_;refine Xr [_,_] Y S8 Y V (Fs r q.bq g) ?_;refine A3 Y<|A0<|Zh 6 CA V rfl A5 Y<|Zl AE Y ?_;refine Zm Y<|Zm Y<|Zv (BL (vs:=[(0,_),(1,_),(2,_),(3,_)]) (cs:=#[_,_,_,_]) Y (AY (pl:=#[(0,1),(1,1),(2,1),(3,1)]) ie N4 (fun _=>by kernel_rfl) rfl))<|Xe (BK cE Y Y (by(simp [Value.oneCell',Value.cells];done)) Wu (by exact Du rfl) E3 AW (by exact BA _)) ?_;refine Z0<|Zn [4] ?_;refine Zx<|AJ<|Cw V results106 Y Wh (Ak isAgg202 cE Wn (BM V)) (by exact ⟨V,V⟩)
theorem yE(v:Value)(p:Int)(rs:List AU)(s:List A9)(hv:RG v p rs s)(hs:BP rs)(hn:rs.length<=2000)(X:∀r∈rs,r.ok)(t B lo hi:Int)(ht:0<=t/\t<=3)(hc:0<=B/\B<=3)(W:lo<=hi)(I:TypeId)(zg:Nat×Nat)(K J:Nat){g:Option Addr}{G:List A9}(af:Bb 9 152 (.slice g Z.length c) Z.length (Z.flatMap Ef) G)(hZ:Z.length<=1000000):BZ prog 102 #[.agg #[I4 t,I4 B,I4 lo,I4 hi],I5 K,I5 J] [[(4,.cells (Eo.map Ct).toArray I zg)],s,[(K,.cells #[v] 131 (0,0))],[(J,.cells #[.slice g Z.length c] 41 (0,0))],G] (fun r H'=>r=undef/\∃(z:RPZ) (mem:List A9) (g:Option Addr) (c:Nat) (G:List A9),z.x=El rs t.toNat B.toNat lo hi/\z.ok mem/\Bb 9 152 (.slice g (Z.length+1) c) (Z.length+1) ((Z++[z]).flatMap Ef) G/\H'=[mem,G,[(4,.cells (Eo.map Ct).toArray I zg)],s,[(K,.cells #[v] 131 (0,0))],[(J,.cells #[.slice g (Z.length+1) c] 41 (0,0))]]):=by
 have d9:=mL;obtain ⟨sp,mb,es,ck,lm,rfl,cO⟩:=id hv;refine Se func102 ntmps102 [0,1,2] ?_;intro u R;refine A0<|Ze (Bx #[_,_,_,_])<|AD fun bx=>A4<|A0<|Zl isAgg131 Y ?_;refine Zh 0 N4 V rfl A5 Y<|Zl AE Y ?_;refine Zh 1 N4 V rfl A5 Y<|Zl AE Y ?_;refine Zh 2 N4 V rfl A5 Y<|Zl AE Y ?_;refine Zh 3 N4 V rfl A5 Y<|Zl AE Y ?_;refine Zc [_,_,_,_,_] Y call103 Y V (wH _ p rs s hv hs hn X t B lo hi ht hc W I zg) ?_;rintro _ _ ⟨_,⟨z,mem,bn,ax,rfl,rfl⟩,rfl⟩;refine Zm Y<|Zd Y V<|Zd Y V<|Ze (Al cC #[_,_,_,_,_,_,_,_,_])<|AD fun bp=>Xe (Xw L7 #[I4 z.x.tb,I4 z.x.cl,I4 z.x.lo,I4 z.x.hi,I4 z.x.ct,I4 z.x.fi,.slice z.qr z.x.rows.length z.cr,.slice z.qp z.x.paths.length z.cp,.slice z.qt z.x.roots.length z.ct]) ?_;refine AG Y<|Zn [2,4] ?_;refine Zx<|Zg<|Zl SD Y ?_;refine Zo Wh (AA (cs:=#[_,_,_,_,_,_,_,_,_]) cG L7 Y Ax AN) ?_;refine Ze (Aj (vs:=[_]) (cs:=[_,_,_,_,_,_,_,_,_]) UP L7 cC Y V rfl V rfl V)<|AD fun gb=>Ze (BR (by_:=120) (sz:=9) UP (V:Tryz.prog.info? 152=some Tryz.t152) V rfl V rfl Y (af) Y (DC 9 gb 1 1 152 (0,0) (Ef z) V) Wo Wo (by have:=yA [z];simpa using this) A1 A1) ?_;rintro _ _ ⟨cu,m,rfl⟩;obtain ⟨U,O,rfl⟩:=m.form;refine Xe (Zs My Y Y V (hi:=by(simp;done))) ?_;refine Z0<|Cz rfl results102 (by exact ⟨rfl,z,mem,U,O,cu,bn,ax,BS m rfl (by rw [N1];simp),rfl⟩)
set_option maxHeartbeats 1000000 in
theorem zB(v:Value)(p:Int)(rs:List AU)(s:List A9)(hv:RG v p rs s)(hs:BP rs)(hn:rs.length<=2000)(gy:∀r∈rs,r.ok)(q:QM)(hq:BJ q)(hl:(CS rs q).length<=100)(Tg:TypeId)(zg:Nat×Nat):BZ prog 50 #[v,.agg q.A30] [[(4,.cells (Eo.map Ct).toArray Tg zg)],s] (fun w H'=>∃vo mem,w= .tuple #[vo,I4 0]/\G8 mem vo (Fg rs q)/\H'=[mem,[(4,.cells (Eo.map Ct).toArray Tg zg)],s]):=by
 have qb:=mL;obtain ⟨sp,mb,es,ck,lm,rfl,pz⟩:=id hv;have d9:=hq.2.1
 have o9:=@SQ rs q.tb q.cl.toNat q.lo q.hi;have l9:0<=q.bq/\q.bq<=3:=by have:=hq.2.2.2;omega
 have o8:0<=q.ot/\q.ot<=3:=by have:=hq.2.2.2;omega
 refine Se func50 ntmps50 [0,1] ?_;intro u R;refine A0<|Ze (Bx #[_])<|AD fun bs=>Ze (Bx q.A30)<|AD fun bq=>Za Y<|A3 Y<|Zq<|AQ<|A0<|Zl isAgg131 Y ?_;refine Zv (Be lO Y Y)<|A3 Y<|AX Y (fun cu=>by cases cu)<|fun cu=>A0<|Zo Wh (AA (cs:=#[_,_,_,_,_,_,_]) E4 CC Y Ax AN) ?_;refine Xr [_] Y call34 Y V (JY q) ?_;refine Zv (Cm Y)<|A3 Y<|AX Y (fun cO=>?_) (fun cO=>?_)
 ·
  exfalso;simp [hq]at cO
 refine AC<|A8<|Zx<|A0<|Ze (Al zeroValue41 #[_])<|AD fun bo=>A4<|A0<|Zv (Bg (vs:=[]) (us:=[_,_]) Y Y)<|AG Y<|Zn [2,3,6,7] ?_;refine Zx<|A0<|Zo Wh (AA (cs:=#[_,_,_,_,_,_,_]) E4 CC Y Ax AN) ?_;refine Xr [_] Y call104 Y V (oE q hq) ?_;refine Ze (Al ie #[_,_,_,_])<|AD fun bx=>Xe (Xw cE #[I4 q.tb,I4 q.cl,I4 q.lo,I4 q.hi]) ?_;refine A4<|A0<|Zl isAgg131 Y ?_;refine Zh 0 N4 V rfl A5 Y<|Zl AE Y ?_;refine Zh 1 N4 V rfl A5 Y<|Zl AE Y ?_;refine Zh 2 N4 V rfl A5 Y<|Zl AE Y ?_;refine Zh 3 N4 V rfl A5 Y<|Zl AE Y ?_;refine Zc [_,_,_,_,_] Y call105 Y V (ji _ p rs s hv q.tb q.cl q.lo q.hi d9) ?_;rintro _ _ ⟨_,⟨s1,h1,rfl⟩,rfl⟩;rw [show Dq rs q.tb q.cl.toNat q.lo q.hi=CS rs q from rfl]at h1 o9;obtain ⟨p1,c1,rfl⟩:=h1.form;obtain ⟨p7,pg,e7,⟨qa,pq⟩,l5⟩:=id (DU h1 A1);injection e7 with e71 e72 e73
 subst e71 e73;refine AG Y<|Zn [3,6,7,8,9] ?_;refine Zx<|Zq<|A0<|Zm Y<|Zv (Aa B6 Y)<|Zv (DJ (n:=100) Y Y)<|A4<|Au Y (fun kv=>by omega)<|fun kv=>AC<|Zx<|Zq<|BV<|Zg<|Zm Y<|Zo Wh (AA (cs:=#[_,_,_,_]) isAgg202 cE Y Ax AN) ?_;refine Zc [_] Y call102 Y V (yE _ p rs s hv hs hn gy q.tb q.cl q.lo q.hi hq.1 d9 hq.2.2.1.2.1 Tg zg bs bo (Z:=[]) (Bf 9 _) (C0 _)) ?_;rintro _ _ ⟨_,⟨rfl,z0,FL,g0,c0,ax,j3,U,O,rfl⟩,rfl⟩;refine A4<|Zb [3,7,9,6] ?_;refine DK (e0:=[(3,_),(7,_),(9,_)]) (H0:=[[(bo,.cells #[.slice g0 (([]:List RPZ).length+1) c0] 41 (0,0))],ax,FL]) (fun e H=>∃(Z:List RPZ) (g:Option Addr) (c:Nat) (I B:List A9),(Z.map RPZ.x=Fg rs q/\(∀z∈Z,z.ok B)/\Bb 9 152 (.slice g Z.length c) Z.length (Z.flatMap Ef) I/\Z.length<=1000)/\e=[]/\H=[[(bo,.cells #[.slice g Z.length c] 41 (0,0))],I,B]) Wp ?hx_1 ?hy_1
 case hx_1=>
  refine A0<|Zh 0 CA V rfl A5 Y<|Zl AE Y ?_;refine Zv (CP Y Y)<|A4<|Au Y (fun af=>?_) (fun af=>?_)
  ·
   refine A0<|Zm Y<|Zv (Aa B6 Y)<|Zm Y<|A4<|AQ<|Zb [43,3,6,7,41,42] ?_;refine BB (e0:=[(43,_)]) (fun m e H=>∃(k:Nat) (Z:List RPZ) (g:Option Addr) (c:Nat) (I B:List A9),m=(CS rs q).length -k/\(k<=(CS rs q).length/\Z.map RPZ.x=El rs q.tb.toNat q.cl.toNat q.lo q.hi::((CS rs q).take k).map (fun r=>El rs q.ot.toNat 0 (Bl r q.bq) (Bl r q.bq))/\(∀z∈Z,z.ok B)/\Z.length=k+1/\Bb 9 152 (.slice g Z.length c) Z.length (Z.flatMap Ef) I)/\e=[(43,I4 (k:Int))]/\H=[[(bo,.cells #[.slice g Z.length c] 41 (0,0))],I,B]) (by exact ⟨0,[z0],g0,c0,ax,FL,rfl,⟨C0 _,by rw [Hx,IH,Lk,j3],fun z hz=>by rw [BT.1 hz];exact U,rfl,O⟩,rfl,rfl⟩) Wp ?_;rintro _ _ _ ⟨k,Z,g,c,I,B,rfl,⟨hk,G,J,bn,K⟩,rfl,rfl⟩;refine A0<|Zv (Av Y Y)<|A4<|Zq<|Au Y (fun gq=>?_) (fun gq=>?_)
   ·
    obtain ⟨X,gB⟩:∃X,(CS rs q)[k]?=some X:=⟨_,B4 gq⟩;obtain ⟨g8,off,cur,T,zz,rfl,l8,q9,gm⟩:=l5 k X gB;refine AC<|Zx<|Zq<|AQ<|A0<|BX (Ac B6 An Y Y A1)<|CQ (cs:=[(g8,.cells cur T zz)]) (by simp [l8]) (AA (cs:=X.A29) CI An Y A1 gm) V rfl ?_;refine Ze (Al DS #[_,_,_,_,_])<|AD fun bx=>Xe (Xw An X.A29) ?_;refine A4<|Zg<|Zm Y<|Zo Wh (AA (cs:=#[_,_,_,_,_,_,_]) E4 CC Y Ax AN) ?_;refine Zo Wh (AA (cs:=#[_,_,_,_,_]) CI An Y Ax AN) ?_;refine Xr [_,_] Y call106 Y V (Sn q l9 X) ?_;refine Zc [_] Y call102 Y V (yE _ p rs s hv hs hn gy q.ot 0 (Bl X q.bq) (Bl X q.bq) o8 A1 (Z1 _) Tg zg bs bo K A1) ?_;rintro _ _ ⟨_,⟨rfl,z5,W,g5,c5,p9,p8,j5,ic,rfl⟩,rfl⟩;refine Z0<|A8<|Zx<|CK (s1:=W) (s2:=B) Wo Wo ?_;refine Zg<|Ya (n:=1) Y Y<|Zm Y<|Z0<|Zn [43,3,6,7,41,42] ?_;refine Ab (e':=[(43,_)]) (by exact ⟨k+1,Z++[z5],g5,c5,p9,W++B,rfl,⟨by omega,by rw [Bm,G,Bn gB,Bm,Lk,p8];rfl,fun z hz=>by rcases BE.1 hz with h9|h9;exact (J z h9).mono (fun c hc=>Fm _ hc);rw [BT.1 h9];exact j5.mono (fun c hc=>DP _ hc),by rw [B7,bn];rfl,by rw [B7];exact ic⟩,rfl,by rw [B7]⟩)
   have ek:k=(CS rs q).length:=by omega
   subst ek;rw [G0]at G;refine Ay<|Zt<|Zt<|AR<|Zn [6] ?_;refine BN (e':=[]) (by exact ⟨Z,_,_,I,B,⟨by unfold Fg;rw [AM af];exact G,J,K,by omega⟩,rfl,rfl⟩)
  refine AC<|Zn [6] ?_;refine BN (e':=[]) (by exact ⟨[z0],g0,c0,ax,FL,⟨by unfold Fg;rw [AK af,Lk,j3],fun z hz=>by rw [BT.1 hz];exact U,O,by simp⟩,rfl,rfl⟩)
 rintro _ _ ⟨Z,g,c,I,B,⟨G,J,K,bn⟩,rfl,rfl⟩;refine Zq<|CK (s1:=I) (s2:=B) Wo Wo ?_;refine Zg<|Zl SD Y ?_;refine Za Y<|A3 Y<|AJ<|Cy rfl results50 Y Y (by exact ⟨.slice g Z.length c,I++B,rfl,by rw [<-G];exact ol K A1 J,rfl⟩)
set_option maxHeartbeats 1000000 in
theorem pO{p9:Option Addr}{m:Nat}(hL:G8 M (.slice p9 (L.length+1) m) (x::L))(G:Ga x){c lo hi:Int}(B:x.scan=(t,c,lo,hi))(U:Nat):BZ prog 160 #[I5 U,.agg #[I4 t,I4 c,I4 lo,I4 hi]] [[(U,.cells #[.slice p9 (L.length+1) m] 245 (0,0))],M] (fun r H'=>∃O,Bb 5 83 r (EN x).length (Af (EN x)) O/\H'=[O,[(U,.cells #[.slice (ES p9 1 m 9) L.length (m -1)] 245 (0,0))],M]):=by
 have cO:=mL;obtain ⟨p8,bn,e9,W,J⟩:=hL.form;injection e9 with e91 e92 e93
 subst e91 e93;rw [DH]at W J;obtain ⟨z,ax,af,g,off,cur,T,zz,rfl,X,cu,I⟩:=hL.at (i:=0) rfl;subst ax;unfold RP.scan at B;injection B with hd1 B
 injection B with hd2 B
 injection B with hd3 hd4
 refine Se func160 ntmps160 [0,1] ?_;intro u R;refine A0<|Ze (Bx #[_,_,_,_])<|AD fun bx=>A3 Y<|A0<|Zm Y<|Zp Y V<|Zh 0 eS V rfl My Y<|Zl SD Y ?_;refine Zv (Aa UP Y)<|Zv (DJ (n:=0) Y Y) ?_;rw [CM (show(0:Nat)<L.length+1 by omega)];refine Xr [_] Y call159 Y V (KM) ?_;refine A4<|A0<|Zm Y<|Zp Y V<|Zh 0 eS V rfl My Y<|Zl SD Y ?_;refine BX (Ac (j:=0) UP L7 Y Y A1)<|CQ (cs:=[(g,.cells cur T zz)]) (by simp [X]) (AA (cs:=#[I4 z.x.tb,I4 z.x.cl,I4 z.x.lo,I4 z.x.hi,I4 z.x.ct,I4 z.x.fi,.slice z.qr z.x.rows.length z.cr,.slice z.qp z.x.paths.length z.cp,.slice z.qt z.x.roots.length z.ct]) cG L7 Y A1 I) V rfl ?_;refine Ze (Al cC #[_,_,_,_,_,_,_,_,_])<|AD fun bp=>Xe (Xw L7 #[I4 z.x.tb,I4 z.x.cl,I4 z.x.lo,I4 z.x.hi,I4 z.x.ct,I4 z.x.fi,.slice z.qr z.x.rows.length z.cr,.slice z.qp z.x.paths.length z.cp,.slice z.qt z.x.roots.length z.ct]) ?_;refine Z0<|Zn [0,3,5] ?_;refine Zx<|A0<|Zm Y<|Zm Y<|Zp Y V<|Zh 0 eS V rfl My Y<|Zl SD Y ?_;refine BX (CB (l:=1) UP L7 Y Y A1)<|Zp Y V<|Zh 0 eS V rfl My Y<|Xe (Zs My Y Y V (hi:=by(simp;done))) ?_;refine A4<|A0<|Zh 0 D4 V rfl A5 Y<|Zl AE Y (hv:=by exact (V:_=some (Value.int .i64 z.x.tb))) ?_;refine Zh 1 D4 V rfl A5 Y<|Zl AE Y (hv:=by exact (V:_=some (Value.int .i64 z.x.cl))) ?_;refine Zh 2 D4 V rfl A5 Y<|Zl AE Y (hv:=by exact (V:_=some (Value.int .i64 z.x.lo))) ?_;refine Zh 3 D4 V rfl A5 Y<|Zl AE Y (hv:=by exact (V:_=some (Value.int .i64 z.x.hi))) ?_;refine Zv (BL (vs:=[(0,I4 z.x.tb),(1,I4 z.x.cl),(2,I4 z.x.lo),(3,I4 z.x.hi)]) (cs:=#[I4 z.x.tb,I4 z.x.cl,I4 z.x.lo,I4 z.x.hi]) Y (AY (pl:=#[(0,1),(1,1),(2,1),(3,1)]) ie N4 (fun _=>by kernel_rfl) A6))<|Zo Wh (AA (cs:=#[I4 t,I4 c,I4 lo,I4 hi]) isAgg202 cE Y Ax AN) ?_;refine Zv (Yp A6 N4 A6 AW AW AW AW Cp AE Y Y) ?_;rw [CM (show z.x.tb=t/\z.x.cl=c/\z.x.lo=lo/\z.x.hi=hi from⟨hd1,hd2,hd3,hd4⟩)];refine Xr [_] Y call159 Y V (KM) ?_;refine Z0<|Zn [5] ?_
 refine Zx<|A0<|Zo Wh (AA (cs:=#[I4 z.x.tb,I4 z.x.cl,I4 z.x.lo,I4 z.x.hi,I4 z.x.ct,I4 z.x.fi,.slice z.qr z.x.rows.length z.cr,.slice z.qp z.x.paths.length z.cp,.slice z.qt z.x.roots.length z.ct]) cG L7 Y Ax AN) ?_;refine Zc [_] Y call218 Y V (yw af.rp G V) ?_;rintro _ _ ⟨_,⟨vr,O,rfl,K,rfl⟩,rfl⟩;obtain ⟨gr,c9,rfl⟩:=K.form;refine Zm Y<|Zd Y V<|Zd Y V<|Za Y<|A3 Y<|A0<|Zm Y<|Xr [_] Y call159 Y V (KM) ?_;refine A4<|A0<|Zm Y<|A3 Y<|AJ<|AP V results160 Y (by exact ⟨O,K,V⟩)
theorem OX(h:Ga x):(EN x).length<=2000/\∀r∈EN x,r.ok:=by
 have B:=h.ct;have h2:=h.fi
 have G:=h.n;rw [dE h];refine ⟨by have:=MD (inB x) x.rows;omega,fun r m=>?_⟩;obtain ⟨j,g⟩:=GW (Ek.1 m).1;exact (h.all j r g).1.1
theorem fo{α:Type}{l:List α}{k:Nat}{x:α}(h:l[k]?=some x):l.drop k=x::l.drop (k+1):=by
 obtain ⟨g,rfl⟩:=B9.1 h;exact RE g
set_option maxHeartbeats 1000000 in
theorem We(hL:G8 M v L)(q:QM)(hr:EX q L=some r):BZ prog 90 #[.agg q.A30,v] [M] (fun w H'=>∃rv sr,w= .tuple #[.agg #[rv,I4 r.val,.bool r.fnd],.bool true]/\Bb 5 83 rv r.rows.length (Af r.rows) sr/\H'=[sr,M]):=by
 have sJ:=mL;obtain ⟨x,L2,rfl,hq,qb,K,p9,J⟩:=QT hr;obtain ⟨pv,cv,rfl,_⟩:=hL.form;rw [DH]at hL;rw [DH];have hT:=hL.tail
 rw [RM]at hT;have pz:0<=q.bq/\q.bq<=3:=by have:=hq.2.2.2;omega
 refine DL func90 V ntmps90 V ?_;intro u R;refine Zb [0,1] ?_;refine A0<|Ze (Bx q.A30)<|AD fun bq=>Ze (Al G3 #[_,_,_])<|AD fun bo=>Ze (Al V0 #[_])<|AD fun bk=>A4<|A0<|Zv (Bg (vs:=[]) (us:=[_,_]) Y Y)<|kr V Y ?_;refine A4<|A0<|Xe (Zs CH Y Y V (hi:=by decide)) ?_;refine A4<|A0<|eH V Y ?_;refine A4<|A0<|Zo Wh (AA (cs:=#[_,_,_,_,_,_,_]) E4 CC Y Ax AN) ?_;refine Xr [_] Y call34 Y V (JY q) ?_;rw [CM hq];refine Xr [_] Y call159 Y V (KM) ?_;refine A4<|A0<|Zm Y<|Zv (BL (vs:=[(0,_)]) (cs:=#[_]) Y (AY (pl:=#[(0,1)]) zeroValue245 eS (fun _=>by kernel_rfl) V))<|Ze (Bx #[_])<|AD fun br=>AG Y<|Zn [2,4,5,6] ?_;refine Zx<|A0<|Zm Y<|Zo Wh (AA (cs:=#[_,_,_,_,_,_,_]) E4 CC Y Ax AN) ?_;refine Xr [_] Y call104 Y V (oE q hq) ?_;refine Zc [_,_] Y call160 Y V (pO hL K qb br) ?_;rintro _ _ ⟨_,⟨sr,j5,rfl⟩,rfl⟩;obtain ⟨gr,qz,rfl⟩:=j5.form;have gq:=DU j5 A1
 obtain ⟨p7,ql,e7,⟨sw,qo⟩,p8⟩:=id gq;injection e7 with e71 e72 e73
 subst e71 e73;refine A3 Y<|A0<|Zm Y<|Zv (Aa B6 Y)<|Zv (kY (n:=100) Y Y) ?_;rw [CM (show(EN x).length<=100 by omega)];refine Xr [_] Y call159 Y V (KM) ?_;refine A4<|Zq<|BV<|Zg<|A3 Y<|Zb [8,2,4,5,6,7] ?_;refine DK (e0:=[(8,_)]) (H0:=[[(br,.cells #[_] 245 (0,0))],[]]) (fun e H=>∃(o:List AU) (vo:Value) (so:List A9) (pr:Option Addr) (cr:Nat),(r=FN q (EN x) o/\Bb 5 83 vo o.length (Af o) so/\o.length<=200000)/\e=[(8,vo)]/\H=[[(br,.cells #[.slice pr 0 cr] 245 (0,0))],so]) Wp ?hx_1 ?hy_1
 case hx_1=>
  refine A0<|Zh 0 CA V rfl A5 Y<|Zl AE Y ?_;refine Zv (CP Y Y)<|A4<|Au Y (fun cu=>?_) (fun cu=>?_)
  ·
   obtain ⟨O,X,ax⟩:∃o,Ei q (EN x) L2=some (o,[])/\r=FN q (EN x) o:=by rcases J with⟨h9,_⟩|⟨_,h9⟩;exact absurd cu h9;exact h9
   refine A0<|Zm Y<|Zv (Aa B6 Y)<|Zm Y<|A4<|AQ<|Zb [8,31,2,4,5,6,7,29,30] ?_;refine BB (e0:=[(8,_),(31,_)]) (fun m e H=>∃(k:Nat) (o:List AU) (l9:List RP) (vo:Value) (so:List A9) (pr:Option Addr) (cr:Nat),m=(EN x).length -k/\(k<=(EN x).length/\Ei q ((EN x).take k) L2=some (o,l9)/\Bb 5 83 vo o.length (Af o) so/\G8 M (.slice pr l9.length cr) l9/\o.length<=2000*k)/\e=[(8,vo),(31,I4 (k:Int))]/\H=[[(br,.cells #[.slice pr l9.length cr] 245 (0,0))],so]) (by exact ⟨0,[],L2,.slice none 0 0,[],_,_,V,⟨C0 _,V,Bf 5 _,hT,C0 _⟩,V,V⟩) Wp ?_;rintro _ _ _ ⟨k,o,l9,vo,so,pr,cr,rfl,⟨hk,G,I,bn,sM⟩,rfl,rfl⟩;obtain ⟨go,co,rfl⟩:=I.form;refine A0<|Zv (Av Y Y)<|A4<|Zq<|Au Y (fun ic=>?_) (fun ic=>?_)
   ·
    obtain ⟨r9,cO⟩:∃r9,(EN x)[k]?=some r9:=⟨_,B4 ic⟩;obtain ⟨g,off,cur,T,zz,rfl,pq,qw,gy⟩:=p8 k r9 cO;obtain ⟨o8,l8,U,o9,d9,_⟩:=Oc (EN x) k L2 (O,[]) A1 X;rw [G]at U;injection U with U
    injection U with h83 h84
    subst h83 h84;rw [fo cO]at d9;obtain ⟨a9,c9,gm,_,_⟩:=Le d9;obtain ⟨x2,gB,j3,B,W⟩:=SN gm;have pg:=(OX B).1
    have qj:=Qa (EN x) k r9 L2 _ _ a9 cO G gm;rw [gB,DH];rw [gB,DH]at bn;refine AC<|Zx<|Zq<|AQ<|A0<|BX (Ac B6 An Y Y A1)<|CQ (cs:=[(g,.cells cur T zz)]) (by simp [pq]) (AA (cs:=r9.A29) CI An Y A1 gy) V rfl ?_;refine Ze (Al DS #[_,_,_,_,_])<|AD fun bx=>Xe (Xw An r9.A29) ?_;refine A4<|Zg<|Zm Y<|Zm Y<|Zo Wh (AA (cs:=#[_,_,_,_,_,_,_]) E4 CC Y Ax AN) ?_;refine Zo Wh (AA (cs:=#[_,_,_,_,_]) CI An Y Ax AN) ?_;refine Xr [_,_] Y call106 Y V (Sn q pz r9) ?_;refine Zc [_,_] Y call160 Y V (pO bn B j3 br) ?_;rintro _ _ ⟨_,⟨s5,h5,rfl⟩,rfl⟩;rw [<-W]at h5;obtain ⟨g5,c5,rfl⟩:=h5.form;refine Ze (BR (by_:=40) (sz:=5) B6 (rfl:Tryz.prog.info? 83=some Tryz.t83) rfl rfl rfl rfl Y (I) Y (iO h5) Wo Wo (by exact CU _) (by rw [W];omega) (by rw [W];omega)) ?_;rintro _ _ ⟨vz,af,rfl⟩;obtain ⟨sj,qx,rfl⟩:=af.form;refine AG Y<|Zn [2,4,5,6,7,8,29,30,31] ?_;refine A8<|Zx<|Zg<|Ya (n:=1) Y Y<|Zm Y<|Z0<|Zn [8,31,2,4,5,6,7,29,30] ?_;refine Ab (e':=[(8,_),(31,_)]) (by exact ⟨k+1,o++a9.1,a9.2,_,_,_,_,rfl,⟨by omega,qj,BS af (by rw [B7]) (by rw [Bh]),bn.tail,by rw [B7,W];omega⟩,rfl,rfl⟩)
   have ek:k=(EN x).length:=by omega
   subst ek;rw [G0,X]at G;injection G with G
   injection G with hrd1 hrd2
   subst hrd1 hrd2;have ve:=ax
   refine Ay<|Zt<|Zt<|AR<|Zn [8,2,4,5,6,7] ?_;refine BN (e':=[(8,_)]) (by exact ⟨O,.slice go O.length co,so,pr,cr,⟨ax,I,by omega⟩,V,V⟩)
  obtain ⟨kv,qa⟩:L2=[]/\r=FN q (EN x) []:=by rcases J with⟨_,h9⟩|⟨h9,_⟩;exact h9;exact absurd h9 cu
  subst kv;refine AC<|Zn [8,2,4,5,6,7] ?_;refine BN (e':=[(8,_)]) (by exact ⟨[],.slice none 0 0,[],ES pv 1 cv 9,cv -1,⟨qa,Bf 5 _,C0 _⟩,V,V⟩)
 rintro _ _ ⟨o,vo,so,pr,cr,⟨q9,I,sO⟩,rfl,rfl⟩;obtain ⟨go,co,rfl⟩:=I.form;have l5:=DU I A1
 refine A0<|Zm Y<|Zp Y V<|Zh 0 eS V rfl My Y<|Zl SD Y ?_;refine Zv (Aa UP Y)<|Zv (CR (n:=0) Y Y) ?_;rw [CM (show(0:Nat)=0 from rfl)];refine Xr [_] Y call159 Y V (KM) ?_;refine A4<|A0<|Zo Wh (AA (cs:=#[_,_,_,_,_,_,_]) E4 CC Y Ax AN) ?_;refine Zm Y<|Zm Y<|Zc [_,_,_] Y call161 Y V (tF gq l5 q A1 (fun _ r hr=>WX ((OX K).2 r hr) q.bq)) ?_;rintro _ _ ⟨_,⟨vw,s3,rfl,h3,rfl⟩,rfl⟩;rw [PE hq,<-q9]at h3⊢;obtain ⟨p3,c3,rfl⟩:=h3.form;refine Xe (Xw As #[.slice p3 r.rows.length c3,I4 r.val,.bool r.fnd]) ?_;refine Xe (Zs CH Y Y V (hi:=by decide)) ?_;refine Z0<|Zn [4,5] ?_;refine Zx<|AJ<|qh V rfl call158 (xc _) V call157 (yc bk _) Wp ?_;rintro _ rfl;refine ⟨_,[s3,M],fun a w hf hs=>UN results90 ((CY a _ hf 4).trans rfl) (Ak BW As (by exact CD _) (cs:=#[.slice p3 r.rows.length c3,I4 r.val,.bool r.fnd]) (BM rfl) w (ZW (b:=bo) Wh hs)) ((CY a _ hf 5).trans rfl) (Z7 E0 (v:= .bool true) (i:=0) rfl w (ZW (b:=bk) Wh hs)),⟨_,s3,rfl,h3,rfl⟩,Sub.amid (by repeat(first|exact Sub.refl _|exact Sub.nil _|(apply Sub.cons;(focus (repeat(first|exact One.here _ _|apply One.there))))|refine Sub.drop _ ?_))⟩
theorem Nl{α:Type}(f:α->List Value)(sz:Nat)(W:∀a,(f a).length=sz)(h0:0<sz){l:List α}(X:∀(i:Nat) (a:α),l[i]?=some a->∃g off cur T zz,p=some ⟨g,off,none⟩/\(g,Obj.cells cur T zz)∈M/\off+i*sz+sz<=cur.size/\cur.extract (off+i*sz) (off+i*sz+sz)=(f a).toArray):FJ M p (l.flatMap f):=by
 intro j u J;have B:(l.flatMap f).length=l.length*sz:=by
  clear X J;induction l with
  |nil=>simp
  |cons a l ih=>rw [HL,B7,ih,W,DH,K1];omega
 have m:=(B9.1 J).1;rw [B]at m;have hd:=Nat.div_add_mod j sz
 have hm:=eR j h0;have hi:j/sz<l.length:=n4 (by rw [kl];exact m)
 obtain ⟨a,U⟩:∃a,l[j/sz]?=some a:=⟨_,B4 hi⟩;obtain ⟨g,off,cur,T,zz,rfl,G,K,I⟩:=X (j/sz) a U;refine ⟨g,off,cur,T,zz,V,G,?_⟩;have h1:=PI I K (j%sz) hm
 have h2:=IG f sz W l (j/sz) a U;have e1:j/sz*sz+j%sz=j:=by rw [kl];exact hd
 have O:(l.flatMap f)[j/sz*sz+j%sz]?=(f a)[j%sz]?:=by rw [<-h2,HA,AM hm,PA]
 rw [e1,J]at O;rw [show off+j=off+j/sz*sz+j%sz by omega,h1,ft];exact O.symm
theorem jU(h:ZsU M (.slice p n cap) Z):FJ M p (Z.flatMap Ef):=by
 obtain ⟨B,g,e,_,m⟩:=h;injection e with e1 e2 e3
 subst e1;exact Nl _ 9 (fun _=>rfl) AW fun i z hz=>(m i z hz).2
theorem dL(h:EU M (.slice p n cap) l):FJ M p (Dr l):=by
 obtain ⟨B,g,e,_,m⟩:=h;injection e with e1 e2 e3
 subst e1;exact Nl _ 2 (fun _=>rfl) AW fun i z hz=>(m i z hz).2
theorem UO(l:List BU):(Dr l).length=l.length*2:=by
 induction l with
 |nil=>rfl
 |cons a l ih=>unfold Dr at*;rw [HL,B7,ih];simp only [DH,J1];omega
theorem X3(l:List BU):∀u∈Dr l,u.oneCell'=true:=by
 intro u g;obtain ⟨z,_,h⟩:=Rg.1 g;simp only [D2,RT,RC]at h;rcases h with rfl|rfl<;>rfl
structure bG where
 q:QM
 res:CE
 since:Int
 until_:Int
 base:Int
 ranges:List RP
 recs:List BU
structure KR where
 a:bG
 rp:Option Addr
 rc:Nat
 gp:Option Addr
 gc:Nat
 cp:Option Addr
 cc:Nat
abbrev KR.A31(c:KR):Array Go.Value:=#[I4 c.a.q.kd,I4 c.a.q.tb,I4 c.a.q.cl,I4 c.a.q.lo,I4 c.a.q.hi,I4 c.a.q.bq,I4 c.a.q.ot,.slice c.rp c.a.res.rows.length c.rc,I4 c.a.res.val,.bool c.a.res.fnd,I4 c.a.since,I4 c.a.until_,I4 c.a.base,.slice c.gp c.a.ranges.length c.gc,.slice c.cp c.a.recs.length c.cc]
def KR.ok(M:List A9)(z:KR):Prop:=De M (.slice z.rp z.a.res.rows.length z.rc) z.a.res.rows/\G8 M (.slice z.gp z.a.ranges.length z.gc) z.a.ranges/\EU M (.slice z.cp z.a.recs.length z.cc) z.a.recs
theorem Ld(h:EU M v l)(K:∀c∈M,c∈M'):EU M' v l:=by
 obtain ⟨p,cap,e,U,O⟩:=h;refine ⟨p,cap,e,U,fun i r W=>?_⟩;obtain ⟨⟨X,cap2,e2,J,I⟩,g,off,cur,T,zz,m,B,G⟩:=O i r W;refine ⟨⟨X,cap2,e2,J,fun j c hc=>?_⟩,g,off,cur,T,zz,m,K _ B,G⟩;obtain ⟨g,off,cur,T,zz,m,B,G⟩:=I j c hc;exact ⟨g,off,cur,T,zz,m,K _ B,G⟩
theorem KR.ok.mono{z:KR}(h:z.ok M)(g:∀c∈M,c∈M'):z.ok M':=⟨h.1.mono g,h.2.1.mono g,Ld h.2.2 g⟩
noncomputable def Jq(q:QM)(base:Int)(L:List RP)(recs:List BU):Option bG:=(EX q L).bind fun r=>if recs.length<=64 then(GD q base 0 (r,base) recs).map fun st=>⟨q,st.1,st.2,base+(recs.length:Int),base,L,recs⟩else none
variable{base:Int}
theorem gU{recs:List BU}(h:¬recs.length<=64):Jq q base L recs=none:=by
 unfold Jq;cases EX q L with
 |none=>rfl
 |some r=>rw [IF,AK h]
theorem QP{recs:List BU}(g:EX q L=some r)(h:recs.length<=64):Jq q base L recs=(GD q base 0 (r,base) recs).map fun st=>⟨q,st.1,st.2,base+(recs.length:Int),base,L,recs⟩:=by
 unfold Jq;rw [g,IF,AM h]
theorem Lc(h:(BC q r base l).2.2=true):GD q base 0 (r,base) l=some ((BC q r base l).1,(BC q r base l).2.1):=by
 unfold BC at*;split at h
 · rename_i st h9;rw [h9]
 · cases h
theorem YR(h:(BC q r base l).2.2=false):GD q base 0 (r,base) l=none:=by
 unfold BC at*;split at h
 · cases h
 · rename_i h9;exact h9
theorem jJ(hq:BJ q){rows g:List AU}(hl:rows.length<=100)(I:∀r∈rows,r.ok):(FN q rows g).rows.length<=200/\-1000000000000000000<=(FN q rows g).val/\(FN q rows g).val<=1000000000000000000:=by
 have G:=j6 (q:=q) (rows:=rows) (fun r hr=>WX (I r hr) q.bq);have B:(Cu q rows).length<=1000000000:=by rw [KE];omega
 have hj:=TP q rows g;have O:∀(lt:Int->Int->Bool) (hlt:∀a b c,lt b a=false->lt c b=false->lt c a=false) (hirr:∀a,lt a a=false) (hasy:∀a b,lt a b=true->lt b a=false),(ER lt (Cu q rows)).rows.length<=200/\-1000000000000000000<=(ER lt (Cu q rows)).val/\(ER lt (Cu q rows)).val<=1000000000000000000:=fun lt U W X=>by
  cases hms:Cu q rows with
  |nil=>exact ⟨C0 _,by show(_:Int)<=0;decide,by show(0:Int)<=_;decide⟩
  |cons z ms=>
   obtain ⟨x,J,_,K⟩:=KJ lt U W X z ms;rw [K];rw [hms]at G;have:=G x J
   exact ⟨C0 _,by show _<=x;omega,by show x<=_;omega⟩
 have m:=iN G B (Cu q rows).length;rw [G0]at m;unfold FN;split
 · exact ⟨C0 _,by simp only;omega,by simp only;omega⟩
 · split
   · exact ⟨C0 _,m⟩
   · split
     · exact O _ (fun a b c h1 h2=>by simp only [N0]at*;omega) (fun a=>by simp) (fun a b h=>by simp only [G1,N0]at*;omega)
     · split
       · exact O _ (fun a b c h1 h2=>by simp only [N0]at*;omega) (fun a=>by simp) (fun a b h=>by simp only [G1,N0]at*;omega)
       · split
         · exact ⟨by simp only;omega,by simp only;decide,by simp only;decide⟩
         · exact ⟨by simp only;omega,by simp only;decide,by simp only;decide⟩
theorem MI{sz:Nat}{e:TypeId}{xs:List Value}(h:Bb sz e v n xs s):n<=maxLen:=by
 obtain ⟨_,⟨_,h0,_⟩|⟨_,_,_,_,_,_,g,h2,_⟩⟩:=h
 · omega
 · omega
theorem LV(h:EX q L=some r):BJ q/\r.rows.length<=200/\-1000000000000000000<=r.val/\r.val<=1000000000000000000:=by
 obtain ⟨x,G,_,g,_,hc,m,B⟩:=QT h;refine ⟨g,?_⟩;rcases B with⟨_,_,rfl⟩|⟨_,o,_,rfl⟩
 · exact jJ g m (OX hc).2
 · exact jJ g m (OX hc).2
theorem LG(hv:ZsU M v Z)(hb:Z.length<=1000000):BZ prog 118 #[v] [M] (fun r H'=>∃K,Bb 9 152 r Z.length (Z.flatMap Ef) K/\H'=[K,M]):=by
 have X:=mL;have B:=hv
 obtain ⟨p,cap,rfl,⟨hl,W⟩,U⟩:=id hv;replace B:=jU B;refine Se func118 ntmps118 [0] ?_;intro u R;refine A0<|A3 Y<|Zq<|A0<|Zm Y<|Zv (Dn UP Y Y)<|A4<|AX Y (fun J=>?_) (fun J=>?_)
 ·
  have G:p=none:=by cases p with
   |none=>rfl
   |some x=>cases J
  have h0:Z=[]:=by
   cases Z with
   |nil=>rfl
   |cons x l=>obtain ⟨_,g,off,cur,T,zz,I,_⟩:=U 0 x rfl;rw [G]at I;cases I
  refine Zq<|BV<|Zg<|A3 Y<|AJ<|Zt<|AP rfl results118 Y (by exact ⟨[],by rw [h0];exact Bf 9 _,rfl⟩)
 refine AC<|Zx<|A0<|Ze (EM UP L7)<|AD fun O=>Zm Y<|Ze (Ha (by_:=120) (sz:=9) UP (V:Tryz.prog.info? 152=some Tryz.t152) V rfl V rfl Y (IP 9 152 O 0 [] V AW) Y (B) (by exact zw _) AW Wo Wo (by exact yA _) A1 A1) ?_;rintro _ _ ⟨af,m,rfl⟩;replace m:=BS m (Cl _) (Ks _);refine A3 Y<|AJ<|AP V results118 Y (by exact ⟨_,m,V⟩)
theorem IB{Z:List BU}(hv:EU M v Z)(hb:Z.length<=1000000):BZ prog 53 #[v] [M] (fun r H'=>∃K,Bb 2 50 r Z.length (Dr Z) K/\H'=[K,M]):=by
 have X:=mL;have B:=hv
 obtain ⟨p,cap,rfl,⟨hl,W⟩,U⟩:=id hv;replace B:=dL B;refine Se func53 ntmps53 [0] ?_;intro u R;refine A0<|A3 Y<|Zq<|A0<|Zm Y<|Zv (Dn GC Y Y)<|A4<|AX Y (fun J=>?_) (fun J=>?_)
 ·
  have G:p=none:=by cases p with
   |none=>rfl
   |some x=>cases J
  have h0:Z=[]:=by
   cases Z with
   |nil=>rfl
   |cons x l=>obtain ⟨_,g,off,cur,T,zz,I,_⟩:=U 0 x rfl;rw [G]at I;cases I
  refine Zq<|BV<|Zg<|A3 Y<|AJ<|Zt<|AP rfl results53 Y (by exact ⟨[],by rw [h0];exact Bf 2 _,rfl⟩)
 refine AC<|Zx<|A0<|Ze (EM GC F2)<|AD fun O=>Zm Y<|Ze (Ha (by_:=32) (sz:=2) GC (V:Tryz.prog.info? 50=some Tryz.t50) V rfl V rfl Y (IP 2 50 O 0 [] V AW) Y (B) (by exact UO _) AW Wo Wo (by exact X3 _) A1 A1) ?_;rintro _ _ ⟨af,m,rfl⟩;replace m:=BS m (Cl _) (Ks _);refine A3 Y<|AJ<|AP V results53 Y (by exact ⟨_,m,V⟩)
set_option maxHeartbeats 1000000 in
theorem uO(q:QM)(te base:Int)(hb:-1000000000000<=base/\base<=1000000000000){pg:Option Addr}{cg:Nat}(hL:G8 M (.slice pg L.length cg) L)(j5:L.length<=1000000)(hr:EX q L=some r){lv:Value}(O:EU M lv l)(ek:∀x∈l,x.cs.length<=1000):BZ prog 60 #[.agg #[I4 q.kd,I4 q.tb,I4 q.cl,I4 q.lo,I4 q.hi,I4 q.bq,I4 q.ot,I4 te,I4 base,.slice pg L.length cg],lv] [M] (fun w H'=>(∃(z:KR) (s3 s1 s2:List A9),Jq q base L l=some z.a/\z.ok (s3++(s1++(s2++M)))/\w= .tuple #[.agg z.A31,.bool true]/\H'=[s3,s1,s2,M])\/(Jq q base L l=none/\w= .tuple #[.agg #[I4 0,I4 0,I4 0,I4 0,I4 0,I4 0,I4 0,.slice none 0 0,I4 0,.bool false,I4 0,I4 0,I4 0,.slice none 0 0,.slice none 0 0],.bool false]/\H'=[M])):=by
 have l8:=mL;obtain ⟨hq,l9,gB⟩:=LV hr;obtain ⟨pl,cl,rfl,kv,l5⟩:=id O;obtain ⟨Z,hZ,W⟩:=id hL;have U:Z.length=L.length:=by rw [<-W,B2]
 obtain ⟨pz,cz,ez,_,ic⟩:=id hZ;refine Se func60 ntmps60 [0,1] ?_;intro u R;refine A0<|Ze (Bx #[I4 q.kd,I4 q.tb,I4 q.cl,I4 q.lo,I4 q.hi,I4 q.bq,I4 q.ot,I4 te,I4 base,.slice pg L.length cg])<|AD fun be=>Ze (Al HU #[_,_,_,_,_,_,_,_,_,_,_,_,_,_,_])<|AD fun bo=>A3 Y<|A0<|Zh 0 Fk V rfl CC Y<|Zo Wh (AA (cs:=#[_,_,_,_,_,_,_]) E4 CC Y Ax AN) ?_;refine Zh 9 Fk V rfl My Y<|Zl SD Y ?_;refine Zc [_,_] Y call90 Y V (We hL q hr) ?_;rintro _ _ ⟨_,⟨o8,s0,rfl,h0,rfl⟩,rfl⟩;obtain ⟨p0,c0,rfl⟩:=h0.form;have d9:=DU h0 A1
 refine Zm Y<|Zd Y V<|Zd Y V<|Ze (Al G3 #[_,_,_])<|AD fun bs=>Xe (Xw As #[.slice p0 r.rows.length c0,I4 r.val,.bool r.fnd]) ?_;refine AG Y<|Zn [1,2,4,6,7] ?_;refine Zx<|Zq<|A0<|Zm Y<|Zv (Bo Y)<|Zm Y<|Ag (t:=19) Y V (fun X=>by cases X)<|fun X=>Zf Y Y<|Yg (Aa GC Y)<|Yg (DJ (n:=64) Y Y)<|Zv (AL Y Y)<|A4<|Au Y (fun af=>?_) (fun af=>?_)
 ·
  refine A0<|Zv (BL (vs:=[]) (cs:=#[_,_,_,_,_,_,_,_,_,_,_,_,_,_,_]) Y (AY (pl:=#[(0,7),(7,3),(10,1),(11,1),(12,1),(13,1),(14,1)]) HU HP (fun _=>by kernel_rfl) rfl))<|Xe (BK H4 Y Y HJ Wu (by exact Du rfl) E3 AW (by exact BA _)) ?_;refine A3 Y<|AJ<|Zt<|Bi V results60 Y Wh (Ak cJ H4 Wn (BM V)) Y (by exact .inr ⟨gU A1,V,V⟩)
 refine AC<|Zx<|Zb [1,2,4,6] ?_;refine DK (e0:=[]) (H0:=[]) (fun e H=>∃(I:Nat) (G:Option Addr) (B:Nat) (s1:List A9) (m:Option Addr) (g:Nat) (s2:List A9),(Bb 9 152 (.slice G L.length B) Z.length (Z.flatMap Ef) s1/\Bb 2 50 (.slice m l.length g) l.length (Dr l) s2)/\e=[(8,I5 I)]/\H=[[(I,.cells #[I4 q.kd,I4 q.tb,I4 q.cl,I4 q.lo,I4 q.hi,I4 q.bq,I4 q.ot,.slice none 0 0,I4 0,.bool false,I4 0,I4 (base+(l.length:Int)),I4 base,.slice G L.length B,.slice m l.length g] 55 (0,0))],s1,s2]) Wp ?hx_2 ?hy_2
 case hx_2=>
  refine Az (n:=17) (0::1::0::4::0::16::60::0::128::0::512::1536::0::7680::16383::0::65535::[]) 108544 A6 A6 V<|A2 0 V (AB (off:=0) Fk V rfl CC Y)<|E6 1 V Wh (AA (cs:=#[_,_,_,_,_,_,_]) E4 CC Y Ax AN) ?_;refine A2 2 V (AB (off:=8) Fk V rfl A5 Y)<|B3 3 V AE Y ?_;refine A2 4 V (AO Y)<|A2 5 V (Aa GC Y) ?_
  (refine Dp (D':=127) 6 (HV Y Y (IntWalk.i64_in _ ?_)) ?_;(focus (omega)))
  refine A2 7 V (AB (off:=8) Fk V rfl A5 Y)<|B3 8 V AE Y ?_;refine A2 9 V (AB (off:=9) Fk V rfl My Y)<|B3 10 V SD Y ?_;refine A2 12 V (AO Y)<|Zz (l:=[11,15])<|B1 [false,true,true,true] [(8,(_,_)),(3,(_,_)),(1,(_,_))] V rfl (Zw [_] Y call118 Y V (LG hZ A1)) ?_ Bz ?_
  ·
   rintro _ _ ⟨_,⟨s1,J,rfl⟩,rfl⟩;refine ⟨Zk (Zk (Zk (AZ))),?_⟩;obtain ⟨G,B,e1⟩:=J.form;rw [U]at e1;subst e1;refine Zz (l:=[13,15])<|B1 [true,true,true] [(8,(_,_)),(3,(_,_)),(1,(_,_))] V rfl (Zw [_] Y call53 Y V (IB O A1)) ?_ Bz ?_
   ·
    rintro _ _ ⟨_,⟨s2,h2,rfl⟩,rfl⟩;refine ⟨Zk (Zk (Zk (AZ))),?_⟩;obtain ⟨m,g,rfl⟩:=h2.form;refine A2 14 V (BL (vs:=[(0,.agg q.A30),(3,I4 (base+(l.length:Int))),(4,I4 base),(5,.slice G L.length B),(6,.slice m l.length g)]) (cs:=#[I4 q.kd,I4 q.tb,I4 q.cl,I4 q.lo,I4 q.hi,I4 q.bq,I4 q.ot,.slice none 0 0,I4 0,.bool false,I4 0,I4 (base+(l.length:Int)),I4 base,.slice G L.length B,.slice m l.length g]) Y (AY (pl:=#[(0,7),(7,3),(10,1),(11,1),(12,1),(13,1),(14,1)]) HU HP (fun _=>by kernel_rfl) A6))<|Yz 15 0 65535 [8,3,1] [true,true,true] [(8,(_,_)),(3,(_,_)),(1,(_,_))] V Y V rfl V rfl (Al HU #[_,_,_,_,_,_,_,_,_,_,_,_,_,_,_])<|AD fun I=>B5<|Yw 16 131071 V (Xw H4 #[I4 q.kd,I4 q.tb,I4 q.cl,I4 q.lo,I4 q.hi,I4 q.bq,I4 q.ot,.slice none 0 0,I4 0,.bool false,I4 0,I4 (base+(l.length:Int)),I4 base,.slice G L.length B,.slice m l.length g])<|CT<|Ah<|Zn [8,1,2,4,6] ?_;refine BN (e':=[(8,_)]) (by exact ⟨I,G,B,s1,m,g,s2,⟨J,h2⟩,V,V⟩)
   refine B1 [true,true,true] [(8,(_,_)),(3,(_,_)),(1,(_,_))] V rfl (Al HU #[_,_,_,_,_,_,_,_,_,_,_,_,_,_,_]) ?_ (fun _ _ h=>h.elim) Ai;rintro _ _ ⟨I,rfl,rfl⟩;refine B5<|Zz (l:=[13])<|B1 [true,true,true] [(8,(_,_)),(3,(_,_)),(1,(_,_))] V rfl (Zw [_] Y call53 Y V (IB O A1)) ?_ Bz Ai;rintro _ _ ⟨_,⟨s2,h2,rfl⟩,rfl⟩;refine ⟨Zk (Zk (Zk (AZ))),?_⟩;obtain ⟨m,g,rfl⟩:=h2.form;refine A2 14 V (BL (vs:=[(0,.agg q.A30),(3,I4 (base+(l.length:Int))),(4,I4 base),(5,.slice G L.length B),(6,.slice m l.length g)]) (cs:=#[I4 q.kd,I4 q.tb,I4 q.cl,I4 q.lo,I4 q.hi,I4 q.bq,I4 q.ot,.slice none 0 0,I4 0,.bool false,I4 0,I4 (base+(l.length:Int)),I4 base,.slice G L.length B,.slice m l.length g]) Y (AY (pl:=#[(0,7),(7,3),(10,1),(11,1),(12,1),(13,1),(14,1)]) HU HP (fun _=>by kernel_rfl) A6))<|Yw 16 131071 V (Xw H4 #[I4 q.kd,I4 q.tb,I4 q.cl,I4 q.lo,I4 q.hi,I4 q.bq,I4 q.ot,.slice none 0 0,I4 0,.bool false,I4 0,I4 (base+(l.length:Int)),I4 base,.slice G L.length B,.slice m l.length g])<|CT<|Ah<|Zn [8,1,2,4,6] ?_;refine BN (e':=[(8,_)]) (by exact ⟨I,G,B,s1,m,g,s2,⟨J,h2⟩,V,V⟩)
  refine B1 [true,true,true,true] [(10,(_,_)),(8,(_,_)),(3,(_,_)),(1,(_,_))] V rfl (Al HU #[_,_,_,_,_,_,_,_,_,_,_,_,_,_,_]) ?_ (fun _ _ h=>h.elim) Ai;rintro _ _ ⟨I,rfl,rfl⟩;refine B5<|Zz (l:=[11])<|B1 [false,true,true,true] [(8,(_,_)),(3,(_,_)),(1,(_,_))] V rfl (Zw [_] Y call118 Y V (LG hZ A1)) ?_ Bz Ai;rintro _ _ ⟨_,⟨s1,J,rfl⟩,rfl⟩;refine ⟨Zk (Zk (Zk (AZ))),?_⟩;obtain ⟨G,B,e1⟩:=J.form;rw [U]at e1;subst e1;refine Zz (l:=[13])<|B1 [true,true,true] [(8,(_,_)),(3,(_,_)),(1,(_,_))] V rfl (Zw [_] Y call53 Y V (IB O A1)) ?_ Bz Ai;rintro _ _ ⟨_,⟨s2,h2,rfl⟩,rfl⟩;refine ⟨Zk (Zk (Zk (AZ))),?_⟩;obtain ⟨m,g,rfl⟩:=h2.form;refine A2 14 V (BL (vs:=[(0,.agg q.A30),(3,I4 (base+(l.length:Int))),(4,I4 base),(5,.slice G L.length B),(6,.slice m l.length g)]) (cs:=#[I4 q.kd,I4 q.tb,I4 q.cl,I4 q.lo,I4 q.hi,I4 q.bq,I4 q.ot,.slice none 0 0,I4 0,.bool false,I4 0,I4 (base+(l.length:Int)),I4 base,.slice G L.length B,.slice m l.length g]) Y (AY (pl:=#[(0,7),(7,3),(10,1),(11,1),(12,1),(13,1),(14,1)]) HU HP (fun _=>by kernel_rfl) A6))<|Yw 16 131071 V (Xw H4 #[I4 q.kd,I4 q.tb,I4 q.cl,I4 q.lo,I4 q.hi,I4 q.bq,I4 q.ot,.slice none 0 0,I4 0,.bool false,I4 0,I4 (base+(l.length:Int)),I4 base,.slice G L.length B,.slice m l.length g])<|CT<|Ah<|Zn [8,1,2,4,6] ?_;refine BN (e':=[(8,_)]) (by exact ⟨I,G,B,s1,m,g,s2,⟨J,h2⟩,V,V⟩)
 rintro _ _ ⟨I,G,B,s1,m,g,s2,⟨J,h2⟩,rfl,rfl⟩;refine Zq<|A0<|Zh 0 Fk V rfl CC Y<|Zo Wh (AA (cs:=#[_,_,_,_,_,_,_]) E4 CC Y Ax AN) ?_;refine Zo Wh (AA (cs:=#[_,_,_]) BW As Y Ax AN) ?_;refine Zh 8 Fk V rfl A5 Y<|Zl AE Y ?_;refine Zm Y<|Zc [_,_,_,_] Y call91 Y V (QZ q hq base A1 O A1 ek d9 A1 gB) ?_;rintro _ _ ⟨_,⟨o9,s3,rfl,h3,rfl⟩,rfl⟩;obtain ⟨g3,c3,rfl⟩:=h3.form;refine Zm Y<|Zd Y rfl<|Zd Y rfl<|Zd Y rfl<|Zh 7 HP rfl rfl As Y<|Xe (BK As Y Y HJ Wu (by exact (rfl:_=(#[I4 q.kd,I4 q.tb,I4 q.cl,I4 q.lo,I4 q.hi,I4 q.bq,I4 q.ot,.slice g3 (BC q r base l).1.rows.length c3,I4 (BC q r base l).1.val,.bool (BC q r base l).1.fnd,I4 0,I4 (base+(l.length:Int)),I4 base,.slice G L.length B,.slice m l.length g]:Array Value))) E3 Ax (by exact BA _)) ?_;refine Zh 10 HP V rfl A5 Y<|Xe (Zs A5 Y Y V (hc:=by exact (V:_=(#[I4 q.kd,I4 q.tb,I4 q.cl,I4 q.lo,I4 q.hi,I4 q.bq,I4 q.ot,.slice g3 (BC q r base l).1.rows.length c3,I4 (BC q r base l).1.val,.bool (BC q r base l).1.fnd,I4 (BC q r base l).2.1,I4 (base+(l.length:Int)),I4 base,.slice G L.length B,.slice m l.length g]:Array Value))) (hi:=by(simp;done))) ?_;refine AG Y<|Zn [4,7,8] ?_;refine Zx<|A0<|Zm Y<|Zv (Bo Y)<|A4<|AX Y (fun K=>?_) (fun K=>?_)
 ·
  have gq:(BC q r base l).2.2=false:=by simpa using K
  refine A0<|Zv (BL (vs:=[]) (cs:=#[_,_,_,_,_,_,_,_,_,_,_,_,_,_,_]) Y (AY (pl:=#[(0,7),(7,3),(10,1),(11,1),(12,1),(13,1),(14,1)]) HU HP (fun _=>by kernel_rfl) rfl))<|Xe (BK H4 Y Y HJ Wu (by exact Du rfl) E3 AW (by exact BA _)) ?_;refine A3 Y<|AJ<|Zt<|Bi rfl results60 Y Wh (Ak cJ H4 Wn (BM rfl)) Y (by exact .inr ⟨by rw [QP hr A1,YR gq];rfl,rfl,rfl⟩)
 have bn:(BC q r base l).2.2=true:=by simpa using K
 refine AC<|Zx<|Zq ?_;have cu:∀z∈Z,z.ok M:=fun z hz=>by obtain ⟨i,hi⟩:=GW hz;exact (ic i z hi).1
 have ax:∀x∈l,Cr M (.slice x.q x.cs.length x.cap) x.cs:=fun x hx=>by obtain ⟨i,hi⟩:=GW hx;obtain ⟨_,_,_,_,gm⟩:=O;exact (gm i x hi).1
 have gy:=Lc bn;have j3:=Et h3
 have cO:=MI h3;refine Zg<|Zo Wh (AA (cs:=#[_,_,_,_,_,_,_,_,_,_,_,_,_,_,_]) cJ H4 Y Ax AN) ?_;refine Xe (BK H4 Y Y HJ Wu (by exact Du rfl) E3 AW (by exact BA _)) ?_;refine A3 Y<|AJ<|Bi rfl results60 Y Wh (Ak cJ H4 Wn (BM rfl)) Y (by exact .inl ⟨⟨⟨q,(BC q r base l).1,(BC q r base l).2.1,base+(l.length:Int),base,L,l⟩,g3,c3,G,B,m,g⟩,s3,s1,s2,by rw [QP hr A1,gy];rfl,⟨(DU h3 cO).mono (fun c hc=>DP _ hc),⟨Z,(WO J A1 cu).mono (fun c hc=>by rcases BE.1 hc with h9|h9;exact Fm _ (DP _ h9);exact Fm _ (Fm _ (Fm _ h9))),W⟩,Ld (Jz h2 (by show l.length<=maxLen;omega) ax) (fun c hc=>Fm _ (Fm _ hc))⟩,rfl,rfl⟩)
theorem xg(q:QM)(te base:Int)(J:-1000000000000<=base/\base<=1000000000000){G:Option Addr}{B:Nat}(I:G8 M (.slice G L.length B) L)(g:L.length<=1000000)(O:EX q L=some r){lv:Value}(K:EU M lv l)(m:∀x∈l,x.cs.length<=1000):BZ prog 60 #[.agg #[I4 q.kd,I4 q.tb,I4 q.cl,I4 q.lo,I4 q.hi,I4 q.bq,I4 q.ot,I4 te,I4 base,.slice G L.length B],lv] [M] (fun w H'=>∃(z:KR) (s:List A9) (b:Bool),((b=true/\Jq q base L l=some z.a/\z.ok (s++M))\/(b=false/\Jq q base L l=none))/\w= .tuple #[.agg z.A31,.bool b]/\H'=[s,M]):=by
 refine Gv (uO q te base J I g O K m) V ?_;rintro w H' (⟨z,s3,s1,s2,h1,h2,rfl,rfl⟩|⟨h1,rfl,rfl⟩)
 · exact ⟨_,⟨z,s3++(s1++s2),true,.inl ⟨rfl,h1,by simpa only [CN]using h2⟩,rfl,rfl⟩,by simp⟩
 · exact ⟨_,⟨⟨⟨⟨0,0,0,0,0,0,0⟩,CE.none,0,0,0,[],[]⟩,none,0,none,0,none,0⟩,[],false,.inr ⟨rfl,h1⟩,rfl,rfl⟩,by simp⟩
end Go.Proofs.YteaiajghbkenoaaGreatDoor
