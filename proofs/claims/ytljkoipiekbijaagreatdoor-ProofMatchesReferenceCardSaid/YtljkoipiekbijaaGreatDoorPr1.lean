/- What Prove returns is complete, right, and about the rows of the range: in plain words. -/
import Derived.Test.YtljkoipiekbijaaGreatDoorTr10
import Derived.ProofKit
import Derived.OpenShut
import Derived.Lib.LaidTab
import Derived.Test.YtljkoipiekbijaaGreatDoorRows
import Derived.Stop.LaidErr
set_option linter.unusedVariables false
set_option linter.unusedSimpArgs false
namespace Go.Proofs.YtljkoipiekbijaaGreatDoor
open Go.Proofs.Tryz
open Go Go.RowKit Gw
set_option maxRecDepth 100000
attribute [local irreducible] Gw.At Gw.Nx Gw.Ops
theorem Pp(s:Bs):∀(n:Nat) (l:List Bs) (i:Nat),l.length<=n->l[i]?=some s->Nw s l.length i (Dx l i).reverse=some (DW l)
 |n,l,i,hn,hi=>by
  have m:=(D3.1 hi).1;rcases FA l.length 2 with h|h
  · match l,hi with
    |[x],hi=>
     have h0:i=0:=by simp at m;exact m
     subst h0;simp at hi;subst hi;rw [Jp C4,SV];rfl
    |[],hi=>simp at hi
    |x::y::l,hi=>simp only [GB]at h;omega
  · have I:=He h
    have h2:=GZ l.length
    match n,hn with
    |0,hn=>omega
    |n+1,hn=>
    have G:(l.take (Bw l.length)).length=Bw l.length:=by rw [CI];omega
    have E:(l.drop (Bw l.length)).length=l.length -Bw l.length:=D4;by_cases g:i<Bw l.length
    · have z:=Pp s n (l.take (Bw l.length)) i A0 (by rw [I3,B2 g];exact hi)
      rw [G]at z;rw [GR h g,cA];show Nw s l.length i (DW (l.drop (Bw l.length))::(Dx (l.take (Bw l.length)) i).reverse)=_
      rw [Pq h g,z,NF h];rfl
    · have z:=Pp s n (l.drop (Bw l.length)) (i -Bw l.length) A0 (by rw [Ly,show Bw l.length+(i -Bw l.length)=i by omega];exact hi)
      rw [E]at z;rw [Fg h g,cA];show Nw s l.length i (DW (l.take (Bw l.length))::(Dx (l.drop (Bw l.length)) (i -Bw l.length)).reverse)=_
      rw [Nv h g,z,NF h];rfl
theorem jL{l:List Bs}{i:Nat}{s:Bs}(hi:l[i]?=some s):NT (DW l) l.length i s (Dx l i)=true:=by
 unfold NT;rw [Pp s l.length l i (B4 _) hi];have h:(Dx l i).any Jd=false:=by
  rw [mS];intro x hx;simp [Jd,Ki l.length l i (B4 _) x hx]
 rw [h];simp
theorem Tk{m:AV->Bool}:∀{l:List AV} {i:Nat} {x:AV},i<Cg m l->l[i]?=some x->m x=false
 |[],i,x,_,hx=>by simp at hx
 |z::l,i,x,hi,hx=>by
  unfold Cg at hi;rw [cC]at hi;by_cases hz:m z=true;· rw [Ax (by simp [hz])]at hi;simp at hi
  · have g:m z=false:=by simpa using hz
    rw [B2 (by simp [g])]at hi;rcases i with _|i
    · simp at hx;rw [<-hx];exact g
    · simp only [bj]at hx
      exact Tk (l:=l) (by unfold Cg;simp at hi;omega) hx
theorem QY{g:AV->Bool}:∀{l:List AV} {x:AV},l[Cg g l]?=some x->g x=true
 |[],x,hx=>by simp at hx
 |z::l,x,hx=>by
  unfold Cg at hx;rw [cC]at hx;by_cases hz:g z=true;· rw [Ax (by simp [hz])]at hx;simp at hx;rw [<-hx];exact hz
  · have m:g z=false:=by simpa using hz
    rw [B2 (by simp [m])]at hx;simp only [GB,bj]at hx;exact QY (l:=l) hx
def ltV(c:Nat)(a b:AV):Prop:=Dz a c<Dz b c\/Dz a c=Dz b c/\a.k<b.k
theorem TF{rs:List AV}(g:BP rs)(t:Int)(c:Nat):(BF rs t c).Pairwise (ltV c):=by
 have m:=F9 g t c (-1000000000) 1000000000;have h2:(rs.filter (inR t c (-1000000000) 1000000000)).Pairwise (fun a b=>a.k≠b.k):=(QQ g fun r h=>iZ h).imp (fun h=>by omega)
 have y:(D8 rs t c (-1000000000) 1000000000).Pairwise (fun a b=>a.k≠b.k):=((Ex rs t c (-1000000000) 1000000000).pairwise_iff (fun h=>h.symm)).2 h2;exact (m.and y).imp (fun{a b} h=>by unfold ltV;obtain ⟨z,E⟩:=h;unfold leV at z;omega)
theorem xX{l:List AV}{R:AV->AV->Prop}(h:l.Pairwise R){i j:Nat}{a b:AV}(g:i<j)(m:l[i]?=some a)(y:l[j]?=some b):R a b:=by
 obtain ⟨hi,rfl⟩:=D3.1 m;obtain ⟨z,rfl⟩:=D3.1 y;exact lE.1 h i j hi z g
theorem Yq{rs:List AV}(z:BP rs){t:Int}{c i j:Nat}{a b:AV}(m:i<=j)(y:(BF rs t c)[i]?=some a)(g:(BF rs t c)[j]?=some b):Dz a c<=Dz b c:=by
 rcases Nat.eq_or_lt_of_le m with rfl|h
 · rw [y]at g;injection g with g;rw [g];exact db _
 · have:=xX (TF z t c) h y g
   unfold ltV at this;omega
theorem Z6{rs:List AV}(y:BP rs)(t c:Nat)(lo:Int){i:Nat}{r:AV}(g:(BF rs (t:Int) c)[i]?=some r):(Cg (geV c lo) (BF rs (t:Int) c)<=i->lo<=Dz r c)/\(i<Cg (geV c lo) (BF rs (t:Int) c)->Dz r c<lo):=by
 constructor
 · intro h
   have m:=(D3.1 g).1;have hx:(BF rs (t:Int) c)[Cg (geV c lo) (BF rs (t:Int) c)]?=some _:=Bk A0
   have z:=I2 (QY hx);have h2:=Yq y h hx g
   omega
 · intro h
   have:=NX (Tk h g);omega
theorem Vu{rs:List AV}(y:BP rs)(t c:Nat)(hi:Int){i:Nat}{r:AV}(g:(BF rs (t:Int) c)[i]?=some r):(Cg (gtV c hi) (BF rs (t:Int) c)<=i->hi<Dz r c)/\(i<Cg (gtV c hi) (BF rs (t:Int) c)->Dz r c<=hi):=by
 constructor
 · intro h
   have m:=(D3.1 g).1;have hx:(BF rs (t:Int) c)[Cg (gtV c hi) (BF rs (t:Int) c)]?=some _:=Bk A0
   have z:=I2 (QY hx);have h2:=Yq y h hx g
   omega
 · intro h
   have:=NX (Tk h g);omega
theorem OJ{rs:List AV}(g:BP rs)(t c:Nat)(lo hi:Int)(m:lo<=hi):Cg (geV c lo) (BF rs (t:Int) c)<=Cg (gtV c hi) (BF rs (t:Int) c):=by
 rcases FA (Cg (gtV c hi) (BF rs (t:Int) c)) (Cg (geV c lo) (BF rs (t:Int) c))with h|h
 · have z:=Fz (geV c lo) (BF rs (t:Int) c)
   have hx:(BF rs (t:Int) c)[Cg (gtV c hi) (BF rs (t:Int) c)]?=some _:=Bk A0;have y:=(Vu g t c hi hx).1 (B4 _)
   have h2:=(Z6 g t c lo hx).2 h;omega
 · exact h
theorem MK{l:List AV}{f m j:Nat}{r:AV}(h:((l.drop f).take m)[j]?=some r):j<m/\l[f+j]?=some r:=by
 rw [I3]at h;split at h;· rw [Ly]at h;exact ⟨by assumption,h⟩
 · cases h
theorem X6{rs:List AV}{t:Int}{c:Nat}{r:AV}(h:r∈BF rs t c):r∈rs/\r.t=t:=by
 have:=PA.1 ((Ex rs t c _ _).mem_iff.1 h);exact ⟨this.1,iZ this.2⟩
theorem K6{rs:List AV}(m:BP rs)(t c:Nat)(lo hi:Int)(g:lo<=hi):CE (BF rs (t:Int) c) c lo<=toT (BF rs (t:Int) c) c hi/\toT (BF rs (t:Int) c) c hi<=(BF rs (t:Int) c).length/\(0<(BF rs (t:Int) c).length->CE (BF rs (t:Int) c) c lo<toT (BF rs (t:Int) c) c hi):=by
 have y:=OJ m t c lo hi g;have h2:=Fz (geV c lo) (BF rs (t:Int) c)
 have z:=Fz (gtV c hi) (BF rs (t:Int) c);unfold CE toT;omega
theorem QD{rs:List AV}(m:BP rs)(t c:Nat)(lo hi:Int)(g:lo<=hi):(EC rs t c lo hi).rows.length=toT (BF rs (t:Int) c) c hi -CE (BF rs (t:Int) c) c lo:=by
 have:=K6 m t c lo hi g;show(((BF rs (t:Int) c).drop _).take _).length=_
 rw [CI,D4];omega
theorem Lx{rs:List AV}(y:BP rs)(hn:rs.length<=2000)(J:∀r∈rs,r.ok)(t c:Nat)(ht:t<=3)(hc:c<=3)(lo hi:Int)(m:lo<=hi):Eb (EC rs t c lo hi):=by
 have h1:=OJ y t c lo hi m;have h2:=Fz (geV c lo) (BF rs (t:Int) c)
 have h3:=Fz (gtV c hi) (BF rs (t:Int) c);have h4:=K6 y t c lo hi m
 have E:=QD y t c lo hi m;have X:=GX y (t:Int) c
 have hf:CE (BF rs (t:Int) c) c lo=Cg (geV c lo) (BF rs (t:Int) c) -1:=rfl;have af:toT (BF rs (t:Int) c) c hi=min (Cg (gtV c hi) (BF rs (t:Int) c)+1) (BF rs (t:Int) c).length:=rfl
 have hv:∀r:AV,Bh r ((c:Nat):Int)=Dz r c:=fun r=>LY r c hc;refine ⟨⟨⟨?_,?_⟩,?_,?_⟩,m,⟨?_,?_⟩,⟨?_,?_⟩,?_,?_,?_,?_,?_⟩;· show(0:Int)<=(t:Int);omega
 · show(t:Int)<4;omega
 · show(0:Int)<=(c:Int);omega
 · show(c:Int)<4;omega
 · show(0:Int)<=((BF rs (t:Int) c).length:Int);omega
 · show((BF rs (t:Int) c).length:Int)<=2000;omega
 · show(0:Int)<=((CE (BF rs (t:Int) c) c lo:Nat):Int);omega
 · show((CE (BF rs (t:Int) c) c lo:Nat):Int)<=((BF rs (t:Int) c).length:Int);omega
 · rw [E];show _<=((BF rs (t:Int) c).length:Int) -((CE (BF rs (t:Int) c) c lo:Nat):Int);omega
 · rw [E];intro h0;show((BF rs (t:Int) c).length:Int)=0;omega
 · intro j r z
   obtain ⟨O,g⟩:=MK z;have M:=X6 (Fm g)
   have I:=Z6 y t c lo g;have G:=Vu y t c hi g
   refine ⟨⟨J r M.1,M.2,?_,?_⟩,?_⟩;· intro h;change Bh r (c:Int)<lo at h;rw [hv]at h;omega
   · intro h;change hi<Bh r (c:Int)at h;rw [hv]at h;rw [E];omega
   · intro U q Z
     obtain ⟨_,K⟩:=MK Z;have:=xX (TF y (t:Int) c) A0 K g
     unfold Nt;show Bh q (c:Int)<Bh r (c:Int)\/Bh q (c:Int)=Bh r (c:Int)/\q.k<r.k
     rw [hv,hv];exact this
 · intro r z
   obtain ⟨_,g⟩:=MK z;have I:=Z6 y t c lo g
   show((CE (BF rs (t:Int) c) c lo:Nat):Int)=0\/Bh r (c:Int)<lo;rw [hv];omega
 · intro r z
   rw [E]at z⊢;obtain ⟨O,g⟩:=MK z;have G:=Vu y t c hi g
   show((CE (BF rs (t:Int) c) c lo:Nat):Int)+_=((BF rs (t:Int) c).length:Int)\/hi<Bh r (c:Int);rw [hv];omega
theorem Uk{rs:List AV}(E:BP rs)(hn:rs.length<=2000)(y:∀r∈rs,r.ok)(t c:Nat)(K:t<=3)(hc:c<=3)(lo hi:Int)(g:lo<=hi):KF (Eu rs) (EC rs t c lo hi):=by
 have M:=K6 E t c lo hi g;have G:=QD E t c lo hi g
 refine ⟨Lx E hn y t c K hc lo hi g,Fq rs,?_,V,DW (Km (BF rs (t:Int) c)),FP _,?_,?_,?_⟩;· rw [G];exact Lg _ _ _
 · show(NU rs)[4*(t:Int).toNat+(c:Int).toNat]?=some (MG ((BF rs (t:Int) c).length:Int)++_)
   rw [S1,S1];unfold NU;rw [HL,nJ t A0 c A0];rfl
 · intro h0
   change ((BF rs (t:Int) c).length:Int)=0 at h0;rw [N3 (show(BF rs (t:Int) c).length=0 by omega)];rfl
 · intro _ k r pf J m
   obtain ⟨I,z⟩:=MK J;change (JN (BF rs (t:Int) c) (CE (BF rs (t:Int) c) c lo) _)[k]?=some pf at m;unfold JN at m;rw [HL,eN I]at m;injection m with m
   subst m;show NT _ ((BF rs (t:Int) c).length:Int).toNat (((CE (BF rs (t:Int) c) c lo:Nat):Int).toNat+k) _ _=true
   rw [S1,S1,<-Ea (BF rs (t:Int) c)];refine jL ?_;unfold Km;rw [HL,z];rfl
theorem bU{rs:List AV}(z:BP rs)(hn:rs.length<=2000)(I:∀r∈rs,r.ok)(t c:Nat)(O:t<=3)(hc:c<=3)(lo hi:Int)(m:lo<=hi):Ci (EC rs t c lo hi)=(BF rs (t:Int) c).filter (inR (t:Int) c lo hi):=by
 have G:=Lx z hn I t c O hc lo hi m;have h4:=K6 z t c lo hi m
 have hf:CE (BF rs (t:Int) c) c lo=Cg (geV c lo) (BF rs (t:Int) c) -1:=rfl;have U:toT (BF rs (t:Int) c) c hi=min (Cg (gtV c hi) (BF rs (t:Int) c)+1) (BF rs (t:Int) c).length:=rfl
 have hv:∀r:AV,Bh r ((c:Nat):Int)=Dz r c:=fun r=>LY r c hc;rw [Wi G];show(((BF rs (t:Int) c).drop (CE (BF rs (t:Int) c) c lo)).take (toT (BF rs (t:Int) c) c hi -CE (BF rs (t:Int) c) c lo)).filter _=_
 have e:BF rs (t:Int) c=(BF rs (t:Int) c).take (CE (BF rs (t:Int) c) c lo)++(((BF rs (t:Int) c).drop (CE (BF rs (t:Int) c) c lo)).take (toT (BF rs (t:Int) c) c hi -CE (BF rs (t:Int) c) c lo)++(BF rs (t:Int) c).drop (toT (BF rs (t:Int) c) c hi)):=by
  have J:(BF rs (t:Int) c).drop (toT (BF rs (t:Int) c) c hi)=((BF rs (t:Int) c).drop (CE (BF rs (t:Int) c) c lo)).drop (toT (BF rs (t:Int) c) c hi -CE (BF rs (t:Int) c) c lo):=by
   rw [eh];congr 1;omega
  rw [J,Ln,Ln]
 conv=>rhs;rw [e]
 rw [Lz,Lz];have X:((BF rs (t:Int) c).take (CE (BF rs (t:Int) c) c lo)).filter (inR (t:Int) c lo hi)=[]:=by
  rw [List.filter_eq_nil_iff];intro r y E;obtain ⟨i,g⟩:=JT y;rw [I3]at g;split at g
  · have:=(Z6 z t c lo g).2 A0
    have:=I2 E;omega
  · cases g
 have Z:((BF rs (t:Int) c).drop (toT (BF rs (t:Int) c) c hi)).filter (inR (t:Int) c lo hi)=[]:=by
  rw [List.filter_eq_nil_iff];intro r y E;obtain ⟨i,g⟩:=JT y;rw [Ly]at g;have K:=(D3.1 g).1
  have:=(Vu z t c hi g).1 A0;have:=I2 E
  omega
 rw [X,Z,ON,HT];refine j8 ?_;intro r y;have M:=X6 (Lo (Ks y))
 unfold inB inR;show decide (lo<=Bh r (c:Int)/\Bh r (c:Int)<=hi)=_
 rw [hv];exact decide_eq_decide.2 ⟨fun h=>⟨M.2,h⟩,fun h=>h.2⟩
theorem rQ{rs:List AV}(y:BP rs)(m:∀r∈rs,r.ok)(t c:Nat)(M:t<=3)(hc:c<=3)(lo hi:Int)(G:lo<=hi):(BF rs (t:Int) c).filter (inR (t:Int) c lo hi)=D8 rs (t:Int) c lo hi:=by
 refine VC y ?_ ?_
 · have g:=(Ex rs (t:Int) c (-1000000000) 1000000000).filter (inR (t:Int) c lo hi)
   refine g.trans ?_;rw [List.filter_filter];refine List.Perm.of_eq (j8 ?_);intro r I;obtain ⟨⟨g,h2,z⟩,J,K⟩:=m r I;unfold inV at g h2 z;have E:-1000000000<=Dz r c/\Dz r c<=1000000000:=by
    unfold Dz;split;· omega
    · split
      · omega
      · split<;>omega
   unfold inR;rw [<-Bool.decide_and];exact decide_eq_decide.2 ⟨fun h=>h.1,fun h=>⟨h,h.1,E⟩⟩
 · exact (F9 y (t:Int) c (-1000000000) 1000000000).filter _
theorem SN{rs:List AV}(y:BP rs)(hn:rs.length<=2000)(m:∀r∈rs,r.ok)(t c:Nat)(z:t<=3)(hc:c<=3)(lo hi:Int)(g:lo<=hi):Ci (EC rs t c lo hi)=D8 rs (t:Int) c lo hi:=by rw [bU y hn m t c z hc lo hi g,rQ y m t c z hc lo hi g]
def CU(c:Int)(n:Nat):Nat:=((if c<0 then-(c+1)else c).tmod n).toNat
theorem Dp(c:Int)(n:Nat)(hn:0<n):CU c n<n:=by
 unfold CU;have g:0<=(if c<0 then-(c+1)else c):=by split<;>omega
 have h2:=Int.tmod_lt_of_pos (if c<0 then-(c+1)else c) (b:=(n:Int)) A0;have m:=Int.tmod_nonneg (n:Int) g
 omega
theorem Sn(c:Int)(n:Nat):(if c<0 then-(c+1)else c).tmod n=(CU c n:Int):=by
 unfold CU;have g:0<=(if c<0 then-(c+1)else c):=by split<;>omega
 have m:=Int.tmod_nonneg (n:Int) g;omega
theorem ui{rs:List AV}{c:Chg}{x:AV}(h:x∈Ej rs c):x∈rs\/(c.has=true/\x=⟨c.t,c.k,c.n⟩):=by
 unfold Ej at h;rcases GS.1 h with h|h
 · rcases GS.1 h with h|h
   · exact .inl (Ks h)
   · exact .inr (PO.1 h)
 · exact .inl (Lo (Lo h))
theorem wH{c:Chg}(h:c.ok)(g:c.has=true):AV.ok ⟨c.t,c.k,c.n⟩:=by
 obtain ⟨_,h2,_⟩:=h;rw [Hl g]at h2;exact Fi.1 fun m=>h2 (.inr ⟨g,m⟩)
theorem VM:∀(cs:List Chg) (rs:List AV),(∀r∈rs,r.ok)->(∀c∈cs,c.ok)->∀r∈Du rs cs,r.ok
 |[],rs,h,_=>h
 |c::cs,rs,h,hc=>by
  have y:∀r∈Ej rs c,r.ok:=fun r m=>by
   rcases ui m with m|⟨hh,rfl⟩
   · exact h r m
   · exact wH (hc c C4) hh
  exact VM cs (Ej rs c) y (fun c g=>hc c (by simp [g]))
theorem Dy.rowsOk{l:List Bz}(h:Dy l):∀i,i<=l.length->∀r∈Bq (l.take i),r.ok
 |0,_=>by intro r g;simp [Bq]at g
 |i+1,hi=>by
  obtain ⟨r,g⟩:∃r,l[i]?=some r:=⟨_,Bk A0⟩;rw [Bt g,FZ];refine VM _ _ (Dy.rowsOk h i A0) fun c hc=>?_;obtain ⟨j,m⟩:=JT hc;exact (h i r g).1.ok.all j c m
theorem nY{M:List AR}{p:C1}{n cap:Nat}{xs:List (List Int)}(h:Nr M (.slice p n cap) xs)(k:Nat)(E:k<=n):Nr M (.slice p k cap) (xs.take k):=by
 obtain ⟨I,g,e,G,y⟩:=h;injection e with e1 e2 e3
 subst e1 e2 e3;have m:(xs.take k).length=k:=by rw [CI];exact OR E
 refine ⟨p,cap,by rw [m],by omega,fun i z hz=>y i z ?_⟩;rw [I3]at hz;split at hz;· exact hz
 · cases hz
def cs0:List Chg:=[⟨0,3,false,V3.zero,true,⟨10,0,0⟩⟩,⟨0,5,false,V3.zero,true,⟨10,21,30⟩⟩]
def RP.cut(x:RP):RP:=⟨x.tb,x.cl,x.lo,x.hi,x.ct,x.fi,x.rows.drop 1,x.paths.drop 1,x.roots⟩
theorem xz{M:List AR}{v:A3}{x:RP}(hv:LQ M v x)(h:Eb x){l:List AV}(y:Ci x=l):CJ prog 107 #[v] [M] (fun r H'=>∃m sr,r= .tuple #[m,.bool true]/\BS 5 91 m l.length (Aa l) sr/\H'=[sr,M]):=by
 have g:=Ux hv;rw [Cp h,y]at g;exact g
theorem LQ.mono{M M':List AR}{v:A3}{x:RP}(h:LQ M v x)(g:∀c∈M,c∈M'):LQ M' v x:=by
 obtain ⟨E,z,G,e,m,h2,y⟩:=h;exact ⟨E,z,G,e,m.mono g,h2.mono g,y.mono g⟩
theorem Sm:∀(n:Nat) (l:List Bs) (i:Nat),l.length<=n->(Dx l i).length<=l.length
 |n,l,i,hn=>by
  rcases FA l.length 2 with h|h
  · rw [Jp A0];simp
  · have m:=He h
    have h2:=GZ l.length
    match n,hn with
    |0,hn=>omega
    |n+1,hn=>
    by_cases hi:i<Bw l.length
    · have g:=Sm n (l.take (Bw l.length)) i (by rw [CI];omega)
      rw [CI]at g;rw [GR h hi,C7];simp only [HI];omega
    · have g:=Sm n (l.drop (Bw l.length)) (i -Bw l.length) (by rw [D4];omega)
      rw [D4]at g;rw [Fg h hi,C7];simp only [HI];omega
theorem Qu{rs:List AV}(g:BP rs)(hn:rs.length<=2000)(t c:Nat)(lo hi:Int):∀s∈(EC rs t c lo hi).roots,s.length<=140737488354000:=by
 intro s h;obtain ⟨x,_,rfl⟩:=HX.1 h;have:=Rn g hn x
 omega
theorem MX{rs:List AV}(m:BP rs)(hn:rs.length<=2000)(t c:Nat)(lo hi:Int):∀l∈(EC rs t c lo hi).paths,l.length<=1000000:=by
 intro l h;obtain ⟨x,_,rfl⟩:=HX.1 h;have g:=Sm _ (Km (BF rs (t:Int) c)) (CE (BF rs (t:Int) c) c lo+x) (B4 _)
 have h2:=GX m (t:Int) c;rw [Ea]at g;omega
end Go.Proofs.YtljkoipiekbijaaGreatDoor
namespace Go.Proofs.YtljkoipiekbijaaGreatDoor
open Go.Proofs.Tryz
open Go Go.RowKit Gw
set_option maxRecDepth 100000
attribute [local irreducible] Gw.At Gw.Nx Gw.Ops
open Go.ChangeShapes Go.WideShapes Go.Deep
theorem nh(g:Addr):g.add 0=g:=by simp [Addr.add]
theorem tC{w:AD}{a:Addr}{v:A3}(h:w.cell? a=some v):a=⟨a.block,a.off,none⟩:=by
 cases a with|mk b o s=>
 cases s with
 |none=>rfl
 |some s=>
  simp only [World.cell?]at h;split at h<;>simp at h
theorem WE{w:AD}{g i:Nat}{v:A3}(h:w.cell? ⟨g,i,none⟩=some v):∃cur T z,w.heap[g]?=some (.cells cur T z)/\cur[i]?=some v:=by
 unfold World.cell? at h;simp only at h;split at h
 · rename_i c T z hc
   exact ⟨c,T,z,hc,by simpa using h⟩
 · cases h
section
variable{H:Type}{enc:An×A3->H}{P:Program}{w:AD}{base:Nat}{held:Bool}
end
def WP(w:AD):List AR:=(List.range w.heap.size).filterMap fun b=>(w.heap[b]?).map fun o=>(b,o)
theorem Vk{w:AD}{b:Nat}{o:Obj}:(b,o)∈WP w↔w.heap[b]?=some o:=by
 unfold WP;rw [cW];constructor
 · rintro ⟨a,_,m⟩
   obtain ⟨o',g,h2⟩:=fj.1 m;injection h2 with e1 e2
   subst e1 e2;exact g
 · intro h
   refine ⟨b,?_,by rw [h];rfl⟩;rw [N6];rcases FA b w.heap.size with g|g
   · exact g
   · simp [Lk g]at h
theorem ay(w:AD):((WP w).map (·.1)).Nodup:=by
 have:∀l:List Nat,((l.filterMap fun b=>(w.heap[b]?).map fun o=>(b,o)).map (·.1)).Sublist l:=by
  intro l;induction l with
  |nil=>simp
  |cons a l ih=>
   rw [iv];cases h:w.heap[a]?with
   |none=>simp only [Option.map_none];exact ih.cons a
   |some o=>simp only [N5,L3];exact ih.cons_cons a
 exact List.Nodup.sublist (this _) mT
def MQ(w:AD)(ks:List Nat):List AR:=(WP w).filter fun c=>!ks.contains c.1
theorem PP{w:AD}{g:List Nat}{b:Nat}{o:Obj}(h:w.heap[b]?=some o)(m:b∉g):(b,o)∈MQ w g:=by
 unfold MQ;rw [PA];exact ⟨Vk.2 h,by simp [m]⟩
theorem l7{P:Program}{f:FuncId}{args:As}{v:A3}{w:AD}(L:List AR)(K:∀c∈L,w.heap[c.1]?=some c.2)(hn:(L.map (·.1)).Nodup){H:Hp}(y:H.flatten=L++MQ w (L.map (·.1)))(h:BB P f args H v):
 Calls P f args w fun e J=>e= .returned v/\Below w.heap.size w J:=by
 have I:Sat w (H++[]) w:=by
  refine ⟨V,V,V,?_,?_⟩
  · rw [HT,y,HD,S6]
    refine ⟨hn,?_,?_⟩;· exact List.Nodup.sublist (lz.map _) (ay w)
    · intro a U b X e
      subst e;obtain ⟨c,hc,rfl⟩:=HX.1 X;unfold MQ at hc;have:=(PA.1 hc).2
      simp only [S7,List.contains_eq_mem,Rg]at this;exact this U
  · intro p E
    rw [HT,y,GS]at E;rcases E with E|E
    · exact K p E
    · exact Vk.1 (PA.1 E).1
 refine Calls.mono (h w [] w I) fun e J Z=>?_;rcases Z with⟨v',H',rfl,⟨rfl,rfl⟩,m⟩|⟨_,_,_,hf,_⟩
 · refine ⟨rfl,m.os,m.tape,m.output,?_,?_⟩
   · rcases P2 w.heap.size with h0|h0
     · omega
     · have M:w.heap.size -1<w.heap.size:=by omega
       have G:w.heap[w.heap.size -1]?=some w.heap[w.heap.size -1]:=KK M;have:J.heap[w.heap.size -1]?=some w.heap[w.heap.size -1]:=by
        by_cases z:(w.heap.size -1)∈L.map (·.1)
        · obtain ⟨c,hc,z⟩:=HX.1 z
          have g:=m.get c (by rw [HT,y];exact HE _ hc);have h2:=K c hc
          rw [z]at g h2;rw [g,<-h2,G]
        · exact m.get (_,_) (by rw [HT,y];exact G2 _ (PP G z))
       rcases FA (w.heap.size -1) J.heap.size with g|g
       · omega
       · rw [Lk g]at this;cases this
   · intro k z
     have G:w.heap[k]?=some w.heap[k]:=KK z;by_cases O:k∈L.map (·.1)
     · obtain ⟨c,hc,rfl⟩:=HX.1 O
       have g:=m.get c (by rw [HT,y];exact HE _ hc);rw [g,K c hc]
     · rw [G]
       exact m.get (_,_) (by rw [HT,y];exact G2 _ (PP G O))
 · exact hf.elim
theorem Xt{P:Program}{w:AD}{n:String}{g:Nat}{cs:As}(m:P.globalNamed n=some g)(h:w.var? P n=some cs):∃T z,w.heap[g]?=some (.cells cs T z):=by
 unfold World.var? at h;rw [m,I0]at h;split at h
 · rename_i c T z hc
   injection h with e
   subst e;exact ⟨T,z,hc⟩
 · cases h
theorem rF:Tryz.prog.globalNamed "cachetier/digest.round"=some 1:=by kernel_rfl
theorem xh:(Tryz.prog.globals[1]?).map (·.type)=some 298:=by kernel_rfl
theorem c32:Tryz.prog.cellsOf 249=1:=by kernel_rfl
theorem rh:Tryz.prog.cellsOf 298=64:=by kernel_rfl
def oF:List Int:=Dj.map fun x=>(x.toNat:Int)
theorem bY:(Rows.laid_cachetier_digest_round:DataW Unit)=Lib.tabData .u32 oF:=by kernel_rfl
theorem Y6:(oF.map fun z=>Value.int .u32 z).toArray=(Dj.map CP).toArray:=by kernel_rfl
theorem n5:Tryz.prog.globalNamed "cachetier/proof.errMisfit"=some 0:=by kernel_rfl
theorem qn:(Tryz.prog.globals[0]?).map (·.type)=some 167:=by kernel_rfl
theorem rj:Tryz.prog.cellsOf 366=1:=by kernel_rfl
theorem y7(u:An)(h:Tryz.prog.typeName? 3 u=some "*errors.errorString"):u=343:=typeName_ptr_named (nm:= "errors.errorString") AG AG AH u h
def WI(W:AD)(Tg:An)(zg:Nat×Nat)(pa:Addr)(Tx:An)(zx:Nat×Nat):Prop:=W.heap[1]?=some (.cells (Dj.map CP).toArray Tg zg)/\W.heap[0]?=some (.cells #[.iface 343 (.pointer (some pa))] Tx zx)
theorem pV{r:List (String×DataW Unit)}{W:AD}(h:laidMet prog (("cachetier/digest.round",Rows.laid_cachetier_digest_round)::("cachetier/proof.errMisfit",Rows.laid_cachetier_proof_errMisfit)::r) W):
 ∃Tg zg pa Tx zx,WI W Tg zg pa Tx zx:=by
 have h1:=h;rw [bY]at h1;have h2:=Lib.tabIs_of_head rF xh aE PB c32 rh h1
 unfold Lib.TabIs at h2;rw [Y6]at h2;obtain ⟨Tg,zg,hb⟩:=Xt rF h2;obtain ⟨pa,s,hv,_⟩:=laid_sentinel h1.tail n5 qn kn y7 underlying343 underlying366 rfl rfl HM rj AG;obtain ⟨Tx,zx,hx⟩:=Xt n5 hv;exact ⟨Tg,zg,pa,Tx,zx,hb,hx⟩
def qc:A3->Bool
 | .string _=>true
 | .slice _ _ _=>true
 | .bool _=>true
 | .int .i64 _=>true
 |_=>false
theorem ZR{W:AD}{J K:An}{O U:Nat×Nat}{M:Addr}(G:WI W J O M K U)
 {g i:Nat}{cur:As}{T:An}{z:Nat×Nat}(E:W.heap[g]?=some (.cells cur T z)){y:A3}(hc:cur[i]?=some y)(I:qc y=true):g∉ [1,0]:=by
 intro m;simp only [H4,PJ,R0]at m;rcases m with m|m
 · subst m
   rw [G.1]at E;injection E with e
   injection e with e1 _ _
   subst e1;rw [eK,HL]at hc;obtain ⟨u,_,rfl⟩:=fj.1 hc;simp [CP,qc]at I
 · subst m
   rw [G.2]at E;injection E with e
   injection e with e1 _ _
   subst e1;rw [eK]at hc;have:=Fm hc
   simp only [HA]at this;subst this;simp [qc]at I
theorem vM{f:FuncId}{args:As}{v:A3}{W:AD}{g m:An}{z E:Nat×Nat}{y:Addr}(G:WI W g z y m E)
 (h:BB prog f args [[(1,.cells (Dj.map CP).toArray g z)],[(0,.cells #[.iface 343 (.pointer (some y))] m E)],MQ W [1,0]] v):
 Calls prog f args W fun e I=>e= .returned v/\Below W.heap.size W I:=
 l7 [(1,.cells (Dj.map CP).toArray g z),(0,.cells #[.iface 343 (.pointer (some y))] m E)] (by
  intro c hc;simp only [H4,PJ,R0]at hc;rcases hc with rfl|rfl
  · exact G.1
  · exact G.2) C4 C4 h
theorem KY{α:Type}:∀(n:Nat) (p:Nat->α->Prop),(∀i,i<n->∃o,p i o)->∃os:List α,os.length=n/\∀i o,os[i]?=some o->p i o
 |0,_,_=>⟨[],rfl,fun i o h=>by cases h⟩
 |n+1,p,h=>by
  obtain ⟨os,g,h2⟩:=KY n p (fun i hi=>h i (by omega));obtain ⟨o,m⟩:=h n (by omega);refine ⟨os++[o],by simp [g],fun i o' hi=>?_⟩;rw [ln]at hi;split at hi;· exact h2 i o' hi
  · rename_i hlt
    have:i=n:=by
     have:=(D3.1 hi).1;simp at this;omega
    subst this;rw [g,Tr]at hi;simp only [Z3,ZD]at hi;subst hi;exact m
section
variable{H:Type}{enc:An×A3->H}{P:Program}{W:AD}{base:Nat}{held:Bool}
theorem TI{t e:An}{s E:Nat}{cs:List A3}{x:DataW H×List MemPlace}(ht:P.underlying t=some (.slice e))(hc:P.cellsOf e=s)(hs:0<s)(h:DataW.trod enc P W base (fun _=>true) held E t cs=some x):
 ∃p len cap,cs=[.slice p len cap]/\(len<=maxLen/\len<=cap)/\∀i,i<len->∃cs' n z,cs'.length=s/\DataW.trod enc P W base (fun _=>true) held n e cs'=some z/\
  ∃g o cur T zz,p=some ⟨g,o,none⟩/\W.heap[g]?=some (.cells cur T zz)/\∀j,j<s->cur[o+i*s+j]?=cs'[j]?:=by
 rcases open_slice ht h with⟨rfl,_⟩|⟨a,len,cap,m,n,D,Pl,rfl,_,hl,hm,hmm,_,hel⟩
 · exact ⟨none,0,0,rfl,⟨CD _,B4 _⟩,fun i hi=>by omega⟩
 · simp only [Mp]at hmm
   subst hmm;refine ⟨some a,len,m,V,⟨by omega,hl⟩,fun i hi=>?_⟩;have y:a=⟨a.block,a.off,none⟩:=by
    obtain ⟨cs0,O,_⟩:=hel 0 A0;rw [hc]at O;obtain ⟨_,X,gg⟩:=World.cells?_some O;have U:=gg 0 hs
    rw [Bk (l:=cs0) (i:=0) A0,Wf,nh,nh]at U;exact tC U
   obtain ⟨cs',Z,h2⟩:=hel i A0;rw [hc]at Z;obtain ⟨_,I,hg⟩:=World.cells?_some Z;refine ⟨cs',n,_,I,h2,?_⟩;have h9:=hg 0 hs
   rw [Bk (l:=cs') (i:=0) A0,y,Cq,Cq]at h9;obtain ⟨cur,T,zz,hb,_⟩:=WE h9;refine ⟨a.block,a.off,cur,T,zz,by rw [<-y],hb,fun j hj=>?_⟩;have J:=hg j hj
   rw [Bk (l:=cs') (i:=j) A0]at J⊢;rw [y,Cq,Cq]at J;obtain ⟨M,T2,af,G,K⟩:=WE J;rw [hb]at G;injection G with e
   injection e with e1 _ _
   rw [e1];exact K
end
theorem yo:Tryz.prog.cellsOf 3=1:=by kernel_rfl
theorem ri:Tryz.prog.cellsOf 184=6:=by kernel_rfl
theorem Yr{H:Type}{enc:An×A3->H}{W:AD}{base:Nat}{held:Bool}{Tg Tx:An}{zg zx:Nat×Nat}{pa:Addr}(h4:WI W Tg zg pa Tx zx){E:Nat}{cs:List A3}{x:DataW H×List MemPlace}(h:DataW.trod enc prog W base (fun _=>true) held E 22 cs=some x):
 ∃v xs,cs=[v]/\Nr (MQ W [1,0]) v xs:=by
 obtain ⟨p,len,cap,rfl,hl,M⟩:=TI eo ri AH h;obtain ⟨xs,h1,h2⟩:=KY len (fun i (z:List Int)=>z.length=6/\(∀n∈z,-9223372036854775808<=n/\n<=9223372036854775807)/\∃g o cur T zz,p=some ⟨g,o,none⟩/\(g,Obj.cells cur T zz)∈MQ W [1,0]/\∀(j:Nat) (n:Int),z[j]?=some n->cur[o+i*6+j]?=some (I4 n)) (fun i hi=>by
  obtain ⟨cs',n,z,af,ht,g,o,cur,T,zz,hp,hb,hc⟩:=M i hi;obtain ⟨ys,m,_,_,_,bf,hf⟩:=DataW.trod_array gi ht;obtain ⟨ns,Z,K⟩:=KY 6 (fun j (n:Int)=>(-9223372036854775808<=n/\n<=9223372036854775807)/\cs'[j]?=some (I4 n)) (fun j y=>by
   have f:=hf j y;rw [yo,MA,Bk A0]at f;have I:j<cs'.length:=by omega
   have e:(cs'.drop j).take 1=[cs'[j]]:=by rw [Sx I];rfl
   rw [e]at f;obtain ⟨k,O,_,U⟩:=DataW.trod_int Ge f;injection O with O _
   exact ⟨k,bounds_i64 U,by rw [Bk I,O]⟩)
  have G:∀(j:Nat) (n:Int),ns[j]?=some n->cur[o+i*6+j]?=some (I4 n):=fun j n y=>by
   have ax:=(D3.1 y).1;rw [hc j A0];exact (K j n y).2
  obtain ⟨n0,X⟩:∃n,ns[0]?=some n:=⟨_,Bk A0⟩;exact ⟨ns,Z,fun n J=>by
   obtain ⟨j,y⟩:=JT J;exact (K j n y).1,g,o,cur,T,zz,hp,PP hb (ZR h4 hb (G 0 n0 X) V),G⟩)
 subst h1;exact ⟨_,xs,V,p,cap,V,hl,h2⟩
end Go.Proofs.YtljkoipiekbijaaGreatDoor
namespace Go.Proofs.YtljkoipiekbijaaGreatDoor
open Go.Proofs.Tryz
open Go Go.RowKit Gw
set_option maxRecDepth 100000
attribute [local irreducible] Gw.At Gw.Nx Gw.Ops
structure QM where
 kd:Int
 tb:Int
 cl:Int
 lo:Int
 hi:Int
 bq:Int
 ot:Int
deriving DecidableEq
abbrev QM.HU(q:QM)(c:Chg)(x y:Option Go.Addr)(o n:Int):Array Go.Value:=#[I4 q.kd,I4 q.tb,I4 q.cl,I4 q.lo,I4 q.hi,I4 q.bq,I4 q.ot,I4 c.t,I4 c.k,.bool c.had,I4 c.o.a,I4 c.o.b,I4 c.o.c,.bool c.has,I4 c.n.a,I4 c.n.b,I4 c.n.c,.pointer x,.pointer y,I4 o,I4 n]
abbrev QM.Ax4(c:QM):Array Go.Value:=#[I4 c.kd,I4 c.tb,I4 c.cl,I4 c.lo,I4 c.hi,I4 c.bq,I4 c.ot]
structure CB where
 rows:List AV
 val:Int
 fnd:Bool
deriving DecidableEq
def inQ(q:QM)(r:AV):Bool:=decide (r.t=q.tb/\q.lo<=Bh r q.cl/\Bh r q.cl<=q.hi)
def BH(q:QM):Prop:=(0<=q.tb/\q.tb<=3)/\(0<=q.cl/\q.cl<=3)/\(-1000000000<=q.lo/\q.lo<=q.hi/\q.hi<=1000000000)/\
 ((q.kd=1/\q.cl=0/\q.lo=q.hi/\(1<=q.lo/\q.lo<=1000000)/\q.bq=0/\q.ot=0)\/((q.kd=2\/q.kd=3)/\q.bq=0/\q.ot=0)\/
  ((q.kd=4\/q.kd=5\/q.kd=6)/\(1<=q.bq/\q.bq<=3)/\q.ot=0)\/(q.kd=7/\(1<=q.bq/\q.bq<=3)/\(0<=q.ot/\q.ot<=3)))
instance(q:QM):Decidable (BH q):=by unfold BH;infer_instance
def CB.none:CB:=⟨[],0,false⟩
def MF(ms:List Int):Int:=ms.foldl (·+·) 0
def EZ(lt:Int->Int->Bool)(ms:List Int):CB:=ms.foldl (fun r n=>⟨r.rows,if !r.fnd||lt n r.val then n else r.val,true⟩) CB.none
def Dv(q:QM)(others:List AV)(k:Int):Option AV:=others.find? (fun x=>decide (x.t=q.ot/\x.k=k))
def H6(q:QM)(others:List AV)(r:AV):List AV:=match Dv q others (Bh r q.bq)with
 |some x=>[r,x]
 |none=>[]
def IR(q:QM)(rows others:List AV):List AV:=rows.flatMap (H6 q others)
def DI(q:QM)(rows:List AV):List Int:=rows.map fun r=>Bh r q.bq
def Cc(q:QM)(rows others:List AV):CB:=
 if q.kd=3 then⟨[],rows.length,false⟩else if q.kd=4 then⟨[],MF (DI q rows),false⟩
 else if q.kd=5 then EZ (fun a b=>decide (a<b)) (DI q rows)else if q.kd=6 then EZ (fun a b=>decide (b<a)) (DI q rows)
 else if q.kd=7 then⟨IR q rows others,0,false⟩else⟨rows,0,false⟩
def Cm(rs:List AV)(q:QM):List AV:=D8 rs q.tb q.cl.toNat q.lo q.hi
def EI(rs:List AV)(q:QM):CB:=Cc q (Cm rs q) (JL rs q.ot)
def kW(c:Chg):List AV:=if c.had then [⟨c.t,c.k,c.o⟩]else []
def IQ(q:QM)(b:Bool)(r:AV):Option AV:=if b&&inQ q r then some r else none
def bfQ(q:QM)(c:Chg):Option AV:=IQ q c.had ⟨c.t,c.k,c.o⟩
def afQ(q:QM)(c:Chg):Option AV:=IQ q c.has ⟨c.t,c.k,c.n⟩
def mQ(q:QM):Option AV->Int
 |some r=>Bh r q.bq
 |none=>0
def U4(q:QM)(c:Chg):Bool:=(bfQ q c).isSome||(afQ q c).isSome
def TK(q:QM)(c:Chg):Bool:=(bfQ q c).isSome !=(afQ q c).isSome
def Dc(q:QM)(c:Chg):Bool:=
 if q.kd=1\/q.kd=2 then U4 q c else if q.kd=3 then TK q c else if q.kd=4 then decide (mQ q (bfQ q c)≠mQ q (afQ q c))
 else if q.kd=5\/q.kd=6 then TK q c||decide (mQ q (bfQ q c)≠mQ q (afQ q c))else U4 q c||decide (c.t=q.ot)
theorem QC{rs:List AV}{c:Chg}(E:Gy rs c):∃A B,rs=A++kW c++B/\Ej rs c=A++OA c++B:=by
 refine ⟨rs.take (EL rs c.t c.k),(rs.drop (EL rs c.t c.k)).drop (if c.had then 1 else 0),?_,V⟩;unfold kW;cases hh:c.had with
 |false=>simp
 |true=>
  have m:(Gq rs c.t c.k).2=true:=by rw [E.1,hh]
  obtain ⟨r,K,hi,I,J⟩:=KC m;have hv:=E.2 m
  rw [J]at hv;have e:r=⟨c.t,c.k,c.o⟩:=by
   obtain ⟨t,k,v⟩:=r;obtain ⟨y,z⟩:=hi;simp only at y z hv;subst y z hv;rfl
  rw [e]at I;obtain ⟨G,g⟩:=D3.1 I;simp only [Mp,G0];conv=>lhs;rw [<-Ln (EL rs c.t c.k) rs,Sx G,g]
  rw [WD,Sx G];rfl
theorem xG{q:QM}(h:BH q)(r:AV):inR q.tb q.cl.toNat q.lo q.hi r=inQ q r:=by
 have hc:=h.2.1;have:=LY r q.cl.toNat A0
 rw [show((q.cl.toNat:Nat):Int)=q.cl by omega]at this;unfold inR inQ;rw [this]
theorem Qk{q:QM}(h:BH q)(rs:List AV):Cm rs q=(rs.filter (inQ q)).foldl (UO q.cl.toNat) []:=by
 unfold Cm D8;rw [j8 fun r _=>xG h r]
theorem Ie{q:QM}(h:BH q)(rs:List AV):(Cm rs q).Perm (rs.filter (inQ q)):=by
 have:=Ex rs q.tb q.cl.toNat q.lo q.hi;rwa [j8 fun r _=>xG h r]at this
theorem TL(q:QM)(c:Chg):(kW c).filter (inQ q)=(bfQ q c).toList:=by
 unfold kW bfQ IQ;cases c.had with
 |false=>rfl
 |true=>simp only [Mp,M1,ju,kB];split<;>rfl
theorem TN(q:QM)(c:Chg):(OA c).filter (inQ q)=(afQ q c).toList:=by
 unfold OA afQ IQ;cases c.has with
 |false=>rfl
 |true=>simp only [Mp,M1,ju,kB];split<;>rfl
def Kh:List Int->Int
 |[]=>0
 |x::l=>x+Kh l
theorem NQ(l:List Int):∀a,l.foldl (·+·) a=a+Kh l:=by
 induction l with
 |nil=>intro a;simp [Kh]
 |cons x l ih=>intro a;rw [ZS,ih];simp only [Kh];omega
theorem Xv(a b:List Int):Kh (a++b)=Kh a+Kh b:=by
 induction a with
 |nil=>simp [Kh]
 |cons x a ih=>simp only [cX,Kh,ih];omega
theorem ND{a b:List Int}(h:a.Perm b):Kh a=Kh b:=by
 induction h with
 |nil=>rfl
 |cons x _ ih=>simp only [Kh,ih]
 |swap x y l=>simp only [Kh];omega
 |trans _ _ ih1 ih2=>exact ih1.trans ih2
theorem wE(lt:Int->Int->Bool)(G:∀a b c,lt b a=false->lt c b=false->lt c a=false)(E:∀a,lt a a=false)(g:∀a b,lt a b=true->lt b a=false)(l:List Int):∀(m:Int),∃x,(x=m\/x∈l)/\lt m x=false/\(∀y∈l,lt y x=false)/\l.foldl (fun(r:CB) n=>(⟨r.rows,if !r.fnd||lt n r.val then n else r.val,true⟩:CB)) ⟨[],m,true⟩=⟨[],x,true⟩:=by
 induction l with
 |nil=>intro m;exact ⟨m,.inl rfl,E m,by simp,rfl⟩
 |cons z l ih=>
  intro m;rw [ZS];cases hz:lt z m with
  |true=>
   obtain ⟨x,I,h2,J,K⟩:=ih z;simp only [S2,ke,hz,Mp];refine ⟨x,.inr (by rcases I with h|h;rw [h];simp;exact Mu _ h),G x z m h2 (g z m hz),fun y hy=>?_,K⟩;rcases H4.1 hy with rfl|hy
   · exact h2
   · exact J y hy
  |false=>
   obtain ⟨x,I,h2,J,K⟩:=ih m;simp only [S2,ke,hz,PC,LN];refine ⟨x,by rcases I with h|h;exact .inl h;exact .inr (Mu _ h),h2,fun y hy=>?_,K⟩;rcases H4.1 hy with rfl|hy
   · exact G x m y h2 hz
   · exact J y hy
theorem LJ(lt:Int->Int->Bool)(E:∀a b c,lt b a=false->lt c b=false->lt c a=false)(m:∀a,lt a a=false)(g:∀a b,lt a b=true->lt b a=false)(z:Int)(l:List Int):∃x∈z::l,(∀y∈z::l,lt y x=false)/\EZ lt (z::l)=⟨[],x,true⟩:=by
 obtain ⟨x,G,h2,I,J⟩:=wE lt E m g l z;refine ⟨x,by rcases G with h|h;rw [h];simp;exact Mu _ h,fun y hy=>?_,?_⟩
 · rcases H4.1 hy with rfl|hy
   · exact h2
   · exact I y hy
 · unfold EZ
   rw [ZS];exact J
theorem PX(lt:Int->Int->Bool)(E:∀a b c,lt b a=false->lt c b=false->lt c a=false)(m:∀a,lt a a=false)(g:∀a b,lt a b=true->lt b a=false)(G:∀a b,lt a b=false->lt b a=false->a=b){l z:List Int}(h:∀y,y∈l↔y∈z):EZ lt l=EZ lt z:=by
 match l,z,h with
 |[],[],_=>rfl
 |[],y::z,h=>have:=(h y).2 C4;cases this
 |y::l,[],h=>have:=(h y).1 C4;cases this
 |y::l,y'::z,h=>
  obtain ⟨x,J,K,M⟩:=LJ lt E m g y l;obtain ⟨I,O,U,X⟩:=LJ lt E m g y' z;rw [M,X,G x I (U x ((h x).1 J)) (K I ((h I).2 O))]
theorem gQ{rs:List AV}{c:Chg}(y:Gy rs c){t:Int}(h:c.t≠t):JL (Ej rs c) t=JL rs t:=by
 obtain ⟨A,B,g,m⟩:=QC y;have z:(kW c).filter (inT t)=[]:=by
  unfold kW;split;· simp [inT,h]
  · rfl
 have E:(OA c).filter (inT t)=[]:=by
  unfold OA;split;· simp [inT,h]
  · rfl
 unfold JL;rw [m];conv=>rhs;rw [g]
 simp only [Lz,z,E,HT]
theorem Rm{o:Option AV}(h:o.isSome=false):o.toList=[]:=by
 cases o with
 |none=>rfl
 |some x=>cases h
theorem rf{rs:List AV}{c:Chg}{q:QM}(G:BH q)(U:Gy rs c)(h:Dc q c=false):EI (Ej rs c) q=EI rs q:=by
 obtain ⟨A,B,X,Z⟩:=QC U;have M:rs.filter (inQ q)=A.filter (inQ q)++(bfQ q c).toList++B.filter (inQ q):=by
  conv=>lhs;rw [X]
  rw [Lz,Lz,TL]
 have O:(Ej rs c).filter (inQ q)=A.filter (inQ q)++(afQ q c).toList++B.filter (inQ q):=by
  rw [Z,Lz,Lz,TN]
 have I:=Ie G rs;have J:=Ie G (Ej rs c)
 rw [M]at I;rw [O]at J;have E:(bfQ q c).isSome=false->(afQ q c).isSome=false->Cm (Ej rs c) q=Cm rs q:=fun h1 h2=>by
  rw [Qk G,Qk G,M,O,Rm h1,Rm h2]
 unfold Dc at h;unfold EI Cc;split at h
 · rename_i hk
   unfold U4 at h;rw [ir]at h;rw [E h.1 h.2,Ax A0,Ax A0,Ax A0,Ax A0,Ax A0,Ax A0,Ax A0,Ax A0,Ax A0,Ax A0]
 · split at h
   · rename_i hk
     rw [B2 hk,B2 hk];have hl:(Cm (Ej rs c) q).length=(Cm rs q).length:=by
      rw [I.length_eq,J.length_eq];simp only [C7];unfold TK at h;cases hb:bfQ q c<;>cases g:afQ q c<;>simp [hb,g]at h⊢
     rw [hl]
   · split at h
     · rename_i hk3 hk
       rw [Ax hk3,Ax hk3,B2 hk,B2 hk];have hs:MF (DI q (Cm (Ej rs c) q))=MF (DI q (Cm rs q)):=by
        unfold MF DI;rw [NQ,NQ,ND (I.map _),ND (J.map _)];simp only [HD,Xv];have K:=NX h
        have key:∀o:Option AV,Kh (o.toList.map fun r=>Bh r q.bq)=mQ q o:=fun o=>by
         cases o with
         |none=>rfl
         |some x=>simp [Kh,mQ]
        rw [key,key];omega
       rw [hs]
     · split at h
       · rename_i hk3 hk4 hk
         rw [ir]at h;have K:=NX h.2
         have z:=h.1;have m:∀y,y∈DI q (Cm (Ej rs c) q)↔y∈DI q (Cm rs q):=fun y=>by
          unfold DI;rw [(I.map _).mem_iff,(J.map _).mem_iff];unfold TK at z;cases hb:bfQ q c<;>cases g:afQ q c<;>simp [hb,g]at z⊢
          simp [hb,g,mQ]at K;rw [K]
         rw [Ax hk3,Ax hk3,Ax hk4,Ax hk4];rcases hk with hk|hk
         · rw [B2 hk,B2 hk]
           exact PX _ (by intro a b c;simp;omega) (by intro a;simp) (by intro a b;simp;omega) (by intro a b;simp;omega) m
         · rw [Ax (show¬q.kd=5 by omega),Ax (show¬q.kd=5 by omega),B2 hk,B2 hk]
           exact PX _ (by intro a b c;simp;omega) (by intro a;simp) (by intro a b;simp;omega) (by intro a b;simp;omega) m
       · rw [ir]at h
         have g:=h.1;unfold U4 at g;rw [ir]at g;rw [E g.1 g.2,gQ U (NX h.2)]
def G5(q:QM):Prop:=(0<=q.tb/\q.tb<=3)/\(0<=q.cl/\q.cl<=3)/\(-1000000000<=q.lo/\q.lo<=q.hi/\q.hi<=1000000000)
instance(q:QM):Decidable (G5 q):=by unfold G5;infer_instance
def Pj(q:QM):Prop:=1<=q.bq/\q.bq<=3
instance(q:QM):Decidable (Pj q):=by unfold Pj;infer_instance
theorem zL{q:QM}(h:q.kd=1):BH q↔G5 q/\q.cl=0/\q.lo=q.hi/\(1<=q.lo/\q.lo<=1000000)/\q.bq=0/\q.ot=0:=by unfold BH G5;omega
theorem zK{q:QM}(h:q.kd=2\/q.kd=3):BH q↔G5 q/\q.bq=0/\q.ot=0:=by unfold BH G5;omega
theorem zJ{q:QM}(h:q.kd=4\/q.kd=5\/q.kd=6):BH q↔G5 q/\Pj q/\q.ot=0:=by unfold BH G5 Pj;omega
theorem zI{q:QM}(h:q.kd=7):BH q↔G5 q/\(0<=q.ot/\q.ot<=3)/\Pj q:=by unfold BH G5 Pj;omega
theorem xQ{q:QM}(h:q.kd=1):decide (BH q)=decide (G5 q/\q.cl=0/\q.lo=q.hi/\(1<=q.lo/\q.lo<=1000000)/\q.bq=0/\q.ot=0):=decide_eq_decide.2 (zL h)
theorem pP{q:QM}(h:q.kd=2\/q.kd=3):decide (BH q)=decide (G5 q/\q.bq=0/\q.ot=0):=decide_eq_decide.2 (zK h)
theorem pN{q:QM}(h:q.kd=4\/q.kd=5\/q.kd=6):decide (BH q)=decide (G5 q/\Pj q/\q.ot=0):=decide_eq_decide.2 (zJ h)
theorem xP{q:QM}(h:q.kd=7):decide (BH q)=decide (G5 q/\(0<=q.ot/\q.ot<=3)/\Pj q):=decide_eq_decide.2 (zI h)
theorem mq{q:QM}(h:¬q.kd=1)(E:¬q.kd=7)(m:¬q.kd=4)(y:¬q.kd=5)(z:¬q.kd=6)(h2:¬q.kd=2)(g:¬q.kd=3):¬BH q:=by unfold BH;omega
theorem yV{q:QM}{m:Bool}(h:q.kd=4\/q.kd=5\/q.kd=6)(g:m=decide (G5 q)):((m&&decide (Pj q))&&decide (q.ot=0))=decide (BH q):=by
 rw [pN h,g];simp [Bool.and_assoc]
theorem yX{q:QM}{m:Bool}(h:q.kd=2\/q.kd=3)(g:m=decide (G5 q)):((m&&decide (q.bq=0))&&decide (q.ot=0))=decide (BH q):=by
 rw [pP h,g];simp [Bool.and_assoc]
theorem pD{q:QM}{m:Bool}(h:q.kd=7)(g:m=decide (G5 q))(e0:m=true):((decide (0<=q.ot/\q.ot<=3)&&decide (Pj q))&&decide ((0:Int)=0))=decide (BH q):=by
 have y:G5 q:=I2 (g.symm.trans e0);rw [xP h];simp [y]
theorem pH{q:QM}{m x y:Bool}(h:q.kd=7)(g:m=decide (G5 q))(e0:m=false):((false&&x)&&y)=decide (BH q):=by
 have z:¬G5 q:=NX (g.symm.trans e0);rw [xP h];simp [z]
theorem rL{q:QM}{b:Bool}{z:Int}(g:((b&&decide (Pj q))&&decide (z=0))=decide (BH q))(e:b=true):((decide (1<=q.bq/\q.bq<=3)&&decide ((0:Int)=0))&&decide (z=0))=decide (BH q):=by
 rw [<-g,e,show decide (Pj q)=decide (1<=q.bq/\q.bq<=3) from decide_eq_decide.2 Iff.rfl];simp only [M1,decide_true,el]
theorem rN{q:QM}{b x y:Bool}{z:Int}(g:((b&&decide (Pj q))&&decide (z=0))=decide (BH q))(e:b=false):((false&&x)&&y)=decide (BH q):=by
 rw [<-g,e];simp
theorem Kw(n lo hi:Int):BB prog 78 #[I4 n,I4 lo,I4 hi] [] (.bool (decide (lo<=n/\n<=hi))):=by
 refine Se func78 ntmps78 [0,1,2] ?_;intro u R;refine A2<|AF Y<|A2<|Sk 2 V<|Zv (Fa Y Y)<|Zm Y<|AZ (t:=10) Y V (fun g=>?_) (fun g=>?_);focus
  refine Sk 2 V<|Yg (JB Y Y)<|Zv (Ay Y Y) ?_
 rotate_left
 focus
  refine Sk 4 V ?_
 all_goals
  refine AM Y<|AO V results78 Y (by exact ⟨by simp [g],V⟩)
theorem Ld(q:QM):BB prog 31 #[.agg q.Ax4] [] (.bool (decide (BH q))):=by
 refine Se func31 ntmps31 [0] ?_;intro u R;refine A2<|Ze (Bx #[_,_,_,_,_,_,_])<|AE fun K=>AF Y<|Zb [1] ?_;refine C9 (e0:=[]) (H0:=[]) (fun e H=>∃(M:Bool),(M=decide (G5 q))/\e=[(3,.bool M)]/\H=[]) Wp ?hx_1 ?hy_1
 case hx_1=>
  refine Zg<|Zh 1 CH V rfl A4 Y<|Zl A5 Y ?_;refine Xr [_,_,_] Y call78 Y V (Kw _ _ _) ?_;refine Zm Y<|AZ (t:=7) Y V (fun Z=>?_) (fun Z=>?_);focus
   refine Yf 2 CH V rfl A4 Y<|Yl A5 Y ?_;refine Xr [_,_,_] Y call78 Y V (Kw _ _ _) ?_;refine Sk 2 V ?_;refine AZ (t:=12) Y V (fun a2=>?_) (fun a2=>?_);focus
    refine Yf 3 CH V rfl A4 Y<|Yl A5 Y ?_;refine Yf 4 CH V rfl A4 Y<|Yl A5 Y ?_;refine Xr [_,_,_] Y call78 Y V (Kw _ _ _) ?_;refine Sk 2 V ?_;refine AZ (t:=19) Y V (fun a3=>?_) (fun a3=>?_);refine Yf 4 CH V rfl A4 Y<|Yl A5 Y ?_;refine Yg (JB Y Y)<|HR Y Y<|AN Y<|FF (e:=[(3,_)]) (h:=by exact ⟨_,by unfold G5;exact decide_eq_decide.2 A0,V,V⟩)
   rotate_left
   focus
    refine Sk 7 V ?_
  rotate_left 2
  focus
   refine Sk 12 V ?_
  all_goals
   refine Sk 4 V<|AN Y<|FF (e:=[(3,_)]) (h:=by exact ⟨_,by unfold G5;exact (CC A0).symm,V,V⟩)
 rintro _ _ ⟨M,g,rfl,rfl⟩;refine Zq<|A2<|Zh 0 CH V rfl A4 Y<|Zl A5 Y ?_;refine A6<|AQ<|Zb [3,25,1] ?_;refine C9 (e0:=[(3,_),(25,_)]) (H0:=[[(K,_)]]) (fun e H=>∃(b:Bool) (y z:Int),(((b&&decide (y=0))&&decide (z=0))=decide (BH q))/\e=[(3,.bool b)]/\H=[[(K,.cells #[I4 q.kd,I4 q.tb,I4 q.cl,I4 q.lo,I4 q.hi,I4 y,I4 z] 30 (0,0))]]) Wp ?hx_6 ?hy_6
 case hx_6=>
  refine AQ<|Zb [3,25,1] ?_;refine C9 (e0:=[(3,_),(25,_)]) (H0:=[[(K,_)]]) (fun e H=>∃(b:Bool) (z:Int),(((b&&decide (Pj q))&&decide (z=0))=decide (BH q))/\e=[(3,.bool b)]/\H=[[(K,.cells #[I4 q.kd,I4 q.tb,I4 q.cl,I4 q.lo,I4 q.hi,I4 q.bq,I4 z] 30 (0,0))]]) Wp ?hx_7 ?hy_7
  case hx_7=>
   refine AQ<|Zq<|AQ<|Zq<|AQ<|Zq<|Zq<|A2<|Zv (Bd Y Y)<|AF Y<|Ad Y (fun G=>?_) (fun G=>?_);·
    refine Az<|Zt<|Zt<|AU<|Zx<|Zq<|A2<|Sk 2 V ?_;refine Ae (t:=38) Y V (fun O=>?_) (fun O=>?_);focus
     have X:G5 q:=I2 (g.symm.trans O);refine Yf 2 CH V rfl A4 Y<|Yl A5 Y ?_;refine Yg (Bd Y Y)<|Sk 2 V ?_;refine AZ (t:=43) Y V (fun c1=>?_) (fun c1=>?_);focus
      refine Yf 3 CH V rfl A4 Y<|Yl A5 Y ?_;refine Yf 4 CH V rfl A4 Y<|Yl A5 Y ?_;refine Yg (Bd Y Y)<|Sk 2 V ?_;refine AZ (t:=50) Y V (fun c2=>?_) (fun c2=>?_);focus
       refine Yf 3 CH V rfl A4 Y<|Yl A5 Y ?_;refine Xr [_,_,_] Y call78 Y V (Kw _ _ _) ?_;refine Sk 2 V ?_;refine AZ (t:=55) Y V (fun c3=>?_) (fun c3=>?_);focus
        refine Yf 5 CH V rfl A4 Y<|Yl A5 Y ?_;refine Yg (Bd Y Y)<|Sk 2 V ?_;refine AZ (t:=60) Y V (fun c4=>?_) (fun c4=>?_);refine Yf 6 CH V rfl A4 Y<|Yl A5 Y ?_;refine Yg (Bd Y Y)<|HR Y Y<|AN Y<|Zn [2] ?_;refine Zx<|AC<|Zt<|AX<|Zt<|AX<|Zt<|AX<|Zt<|AX<|Zt<|AO rfl fW Y (by exact ⟨by rw [xQ G];exact congrArg Value.bool (decide_eq_decide.2 ⟨fun h=>⟨X,by omega⟩,fun h=>by omega⟩),rfl⟩)
       rotate_left
       focus
        refine Sk 5 V ?_
      rotate_left 2
      focus
       refine Sk 10 V ?_
     rotate_left 3
     focus
      refine Sk 17 V ?_
    rotate_left 4
    focus
     have X:¬G5 q:=NX (g.symm.trans O);refine Sk 22 V ?_
    all_goals
     refine Sk 4 V<|AN Y<|Zn [2] ?_;refine Zx<|AC<|Zt<|AX<|Zt<|AX<|Zt<|AX<|Zt<|AX<|Zt<|AO rfl fW Y (by exact ⟨by rw [xQ G];exact congrArg Value.bool (CC (fun h=>by first|exact X h.1|omega)).symm,rfl⟩)
   refine B3<|Zq<|A2<|Zv (Bd Y Y)<|AF Y<|Ad Y (fun I=>?_) (fun I=>?_);·
    refine Az<|Zt<|Zt<|Ba V<|Zt<|AU<|BT<|Sk 2 V ?_;refine Ae (t:=66) Y V (fun e0=>?_) (fun e0=>?_);·
     refine Yf 6 CH V rfl A4 Y<|Yl A5 Y ?_;refine Xr [_,_,_] Y call78 Y V (Kw _ _ _) ?_;refine HR Y Y<|AF Y<|Zg<|Zh 6 CH V rfl A4 Y<|Xe (Zs A4 Y Y V) ?_;refine Z0<|Zn [1,3] ?_;refine A8<|FF (e:=[(3,_)]) (h:=by exact ⟨_,_,pD I g e0,V,V⟩)
    refine Sk 4 V<|AF Y<|Zg<|Zh 6 CH V rfl A4 Y<|Xe (Zs A4 Y Y V) ?_;refine Z0<|Zn [1,3] ?_;refine A8<|FF (e:=[(3,_)]) (h:=by exact ⟨_,0,pH I g e0,V,V⟩)
   refine B3<|Zq<|Zq<|A2<|Zv (Bd Y Y)<|AF Y<|Ad Y (fun E=>?_) (fun E=>?_);focus
    refine B3<|Ad Y (fun E=>?_) (fun E=>?_);·
     refine Az<|Zt<|Zt<|Ba V<|Zt<|Ba V<|Zt<|AU<|FF (e:=[(3,_)]) (h:=by exact ⟨_,_,yV A0 g,V,V⟩)
    focus
     refine B3<|Zq<|A2<|Zv (Bd Y Y)<|AF Y<|Ad Y (fun m=>?_) (fun m=>?_);focus
      refine AB ?_
     rotate_left
     focus
      refine Zg<|Zv (Bd Y Y)<|Za Y<|Z0 ?_
   rotate_left 2
   focus
    refine A2<|Zv (Bd Y Y)<|AF Y<|Ad Y (fun E=>?_) (fun E=>?_);focus
     refine B3<|Ad Y (fun E=>?_) (fun E=>?_);·
      refine Az<|Zt<|Zt<|Ba V<|Zt<|Ba V<|Zt<|AU<|FF (e:=[(3,_)]) (h:=by exact ⟨_,_,yV A0 g,V,V⟩)
     focus
      refine B3<|Zq<|A2<|Zv (Bd Y Y)<|AF Y<|Ad Y (fun m=>?_) (fun m=>?_);focus
       refine AB ?_
      rotate_left
      refine Zg<|Zv (Bd Y Y)<|AF Y<|Ad Y (fun m=>?_) (fun m=>?_);·
       refine Az<|Zt<|Ba V<|Zt<|Ba V<|Zt<|Ba V<|Zt<|AU<|FF (e:=[(3,_)]) (h:=by exact ⟨_,_,_,yX A0 g,V,V⟩)
      refine B3<|Az<|Ba V<|Zt<|Ba V<|Zt<|Ba V<|Zt<|Ba V<|Zt<|AU<|BT<|AN Y<|Zn [2] ?_;refine Zx<|AC<|AO V fW Y (by exact ⟨congrArg Value.bool (CC (mq G I A0 A0 A0 A0 A0)).symm,V⟩)
    rotate_left
    focus
     refine Zg<|Zv (Bd Y Y)<|AF Y<|Ad Y (fun E=>?_) (fun E=>?_);·
      refine Az<|Zt<|Zt<|Ba V<|Zt<|Ba V<|Zt<|AU<|FF (e:=[(3,_)]) (h:=by exact ⟨_,_,yV A0 g,V,V⟩)
     focus
      refine B3<|Zq<|A2<|Zv (Bd Y Y)<|AF Y<|Ad Y (fun m=>?_) (fun m=>?_);·
       refine B3<|Ad Y (fun m=>?_) (fun m=>?_);·
        refine Az<|Zt<|Ba V<|Zt<|Ba V<|Zt<|Ba V<|Zt<|AU<|FF (e:=[(3,_)]) (h:=by exact ⟨_,_,_,yX A0 g,V,V⟩)
       refine B3<|Az<|Ba V<|Zt<|Ba V<|Zt<|Ba V<|Zt<|Ba V<|Zt<|AU<|BT<|AN Y<|Zn [2] ?_;refine Zx<|AC<|AO V fW Y (by exact ⟨congrArg Value.bool (CC (mq G I A0 A0 A0 A0 A0)).symm,V⟩)
      focus
       refine Zg<|Zv (Bd Y Y)<|AN Y<|Zn [1,3,34] ?_
   all_goals
    refine Zx<|Ad Y (fun m=>?_) (fun m=>?_);·
     refine Az<|Zt<|Ba V<|Zt<|Ba V<|Zt<|Ba V<|Zt<|AU<|FF (e:=[(3,_)]) (h:=by exact ⟨_,_,_,yX A0 g,V,V⟩)
    refine B3<|Az<|Ba V<|Zt<|Ba V<|Zt<|Ba V<|Zt<|Ba V<|Zt<|AU<|BT<|AM Y<|AO V fW Y (by exact ⟨congrArg Value.bool (CC (mq G I A0 A0 A0 A0 A0)).symm,V⟩)
  rintro _ _ ⟨b,z,J,rfl,rfl⟩;refine A2<|Sk 2 V ?_;refine Ae (t:=73) Y V (fun U=>?_) (fun U=>?_);·
   refine Yf 5 CH V rfl A4 Y<|Yl A5 Y ?_;refine Xr [_,_,_] Y call78 Y V (Kw _ _ _) ?_;refine HR Y Y<|AF Y<|Zg<|Zh 5 CH V rfl A4 Y<|Xe (Zs A4 Y Y V) ?_;refine Z0<|A8<|FF (e:=[(3,_)]) (h:=by exact ⟨_,_,_,rL J U,V,V⟩)
  refine Sk 4 V<|AF Y<|Zg<|Zh 5 CH V rfl A4 Y<|Xe (Zs A4 Y Y V) ?_;refine Z0<|A8<|FF (e:=[(3,_)]) (h:=by exact ⟨_,0,z,rN J U,V,V⟩)
 rintro _ _ ⟨b,y,z,J,rfl,rfl⟩;refine Zq<|A2<|Sk 2 V ?_;refine Ae (t:=80) Y V (fun g0=>?_) (fun g0=>?_);focus
  refine Yf 5 CH V rfl A4 Y<|Yl A5 Y ?_;refine Yg (Bd Y Y)<|Sk 2 V ?_;refine AZ (t:=85) Y V (fun g1=>?_) (fun g1=>?_);focus
   refine Yf 6 CH V rfl A4 Y<|Yl A5 Y ?_;refine Yg (Bd Y Y)<|Zv (Ay Y Y) ?_
  rotate_left
  focus
   refine Sk 4 V ?_
 rotate_left 2
 focus
  refine Sk 9 V ?_
 all_goals
  refine AM Y<|Zt<|AX<|Zt<|AO rfl fW Y (by exact ⟨by rw [<-J];simp [*],rfl⟩)
def JQ(p:C1)(o:Option AV)(s:List AR):Prop:=match o with
 |none=>p=none/\s=[]
 |some r=>∃b,p=some ⟨b,0,none⟩/\s=[(b,.cells r.Ax3 91 (0,0))]
theorem JQ.some_{p:C1}{o:Option AV}{s:List AR}(h:JQ p o s):p.isSome=o.isSome:=by
 cases o with
 |none=>rw [h.1];rfl
 |some r=>obtain ⟨b,rfl,_⟩:=h;rfl
theorem ZO(q:QM)(c:Chg)(g:Bool)(v:V3):IQ q g (Er c g v)=IQ q g ⟨c.t,c.k,v⟩:=by
 cases g with
 |false=>rfl
 |true=>rfl
theorem pQ{q:QM}{b:Bool}{r:AV}(h:b=false\/¬(r.t=q.tb/\q.lo<=Bh r q.cl/\Bh r q.cl<=q.hi)):IQ q b r=none:=by
 unfold IQ inQ;rcases h with h|h
 · rw [h];rfl
 · rw [CC h,Bool.and_false];rfl
theorem uu{q:QM}{b:Bool}{r:AV}(h:b=true)(h2:r.t=q.tb/\q.lo<=Bh r q.cl/\Bh r q.cl<=q.hi):IQ q b r=some r:=by
 unfold IQ inQ;rw [h,Cp h2];rfl
theorem Ij:JJ prog 3 (fun k:Int=>I4 k) (fun _=>True):=qg Ge
theorem Ou(q:QM)(z:0<=q.cl/\q.cl<=3)(y:0<=q.bq/\q.bq<=3)(bq:Nat)(r:AV)(b:Bool):CJ prog 234 #[.agg r.Ax3,.bool b,I5 bq] [[(bq,.cells q.Ax4 30 (0,0))]] (fun v H'=>∃p s,v= .tuple #[.pointer p,I4 (mQ q (IQ q b r))]/\JQ p (IQ q b r) s/\H'=[s,[(bq,.cells q.Ax4 30 (0,0))]]):=by
 refine Se func234 ntmps234 [0,1,2] ?_;intro u R;refine A2<|Ze (Bx #[_,_,_,_,_])<|AE fun E=>Za Y<|AF Y<|A2<|Zo Wh (A7 (cs:=#[_,_,_,_,_]) C5 AW Y BW B5)<|Zh 2 CH V rfl A4 Y<|Zl A5 Y<|Xr [_,_] Y Sf Y V (Gf r q.cl z)<|AF Y<|C0 Y<|Zv (CR Y)<|Zm Y<|Ae (t:=14) Y V (fun m=>?_) (fun m=>?_);·
  refine Sk 18 V<|Z0<|Zn [2,3,32] ?_;refine Zx<|BV Y<|Zq<|Bi<|Zg<|Za Y<|AM Y<|Zt<|Cn V results234 Y Y (by
   have g:IQ q b r=none:=pQ (by exact .inl (by simpa using m));exact ⟨none,[],by rw [g];rfl,by rw [g];exact ⟨rfl,rfl⟩,rfl⟩)
 refine Yf 0 F1 V rfl A4 Y<|Yl A5 Y<|Yf 1 CH V rfl A4 Y<|Yl A5 Y<|Yg (ED Y Y)<|Sk 2 V ?_;refine AZ (t:=21) Y V (fun h2=>?_) (fun h2=>?_);focus
  refine Sk 11 V<|Z0<|Zn [2,3,32] ?_;refine Zx<|BV Y ?_
 rotate_left
 focus
  refine Zf Y Y<|Yf 3 CH V rfl A4 Y<|Yl A5 Y<|Yg (Dq Y Y)<|Sk 2 V ?_;refine AZ (t:=27) Y V (fun G=>?_) (fun G=>?_);focus
   refine Sk 5 V<|Z0<|Zn [2,3,32] ?_;refine Zx<|BV Y ?_
  rotate_left
  focus
   refine Zf Y Y<|Yf 4 CH V rfl A4 Y<|Yl A5 Y<|Yg (EE Y Y)<|H3 Y Y<|Z0<|Zn [2,3,32] ?_;refine Zx<|Ad Y (fun I=>?_) (fun I=>?_);rotate_left;refine AB<|BT<|Zo Wh (A7 (cs:=#[_,_,_,_,_]) C5 AW Y BW B5)<|Zh 5 CH V rfl A4 Y<|Zl A5 Y<|Xr [_,_] Y Sf Y V (Gf r q.bq y)<|Za Y<|AM Y<|Cn V results234 Y Y (by
    have g:IQ q b r=some r:=uu (by simpa using m) A0;exact ⟨_,_,by rw [g];rfl,by rw [g];exact ⟨E,rfl,rfl⟩,rfl⟩)
 all_goals
  refine Zq<|Bi<|Zg<|Za Y<|AM Y<|Zt<|Cn V results234 Y Y (by
   have g:IQ q b r=none:=pQ (by exact .inr A0);exact ⟨none,[],by rw [g];rfl,by rw [g];exact ⟨rfl,rfl⟩,rfl⟩)
theorem jg(c:Chg):BB prog 235 #[.agg c.Ax2] [] (.tuple #[.agg #[I4 (Er c c.had c.o).t,I4 (Er c c.had c.o).k,I4 (Er c c.had c.o).v.a,I4 (Er c c.had c.o).v.b,I4 (Er c c.had c.o).v.c],.bool c.had]):=by
 refine Se func235 ntmps235 [0] ?_;intro u R;refine A2<|Ze (Bx #[_,_,_,_,_,_,_,_,_,_])<|AE fun g=>Ze (Al DS #[_,_,_,_,_])<|AE fun m=>AF Y<|A2<|Zo Wh (A7 (cs:=#[_,_,_,_,_,_,_,_,_,_]) G1 D2 Y BW B5)<|Zh 2 CM V rfl DP Y<|Zl Fc Y<|Zh 3 CM V rfl Dg Y<|Zo Wh (A7 (cs:=#[_,_,_]) Hv Dg Y BW B5)<|Xr [_,_,_] Y call140 Y V (WZ c c.had c.o)<|Sk 2 V<|Xe (Xw AW _)<|AN Y<|Zn [2,3] ?_;refine Zx<|AC<|Bo V results235 Y Wh (Ai C5 AW Wn (V)) Y (by exact ⟨V,V⟩)
set_option maxHeartbeats 1000000 in
theorem Ka(q:QM)(z:0<=q.cl/\q.cl<=3)(y:0<=q.bq/\q.bq<=3)(c:Chg):CJ prog 189 #[.agg q.Ax4,.agg c.Ax2] [] (fun v H'=>∃E G s1 s2,v= .agg (q.HU c E G (mQ q (bfQ q c)) (mQ q (afQ q c)))/\JQ E (bfQ q c) s1/\JQ G (afQ q c) s2/\H'=[s1,s2]):=by
 refine Se func189 ntmps189 [0,1] ?_;intro u R;refine A2<|Ze (Bx #[_,_,_,_,_,_,_])<|AE fun bq=>Ze (Bx #[_,_,_,_,_,_,_,_,_,_])<|AE fun K=>Ze (Ff zeroValue241 (cs:=#[I4 0,I4 0,I4 0,I4 0,I4 0,I4 0,I4 0,I4 0,I4 0,.bool false,I4 0,I4 0,I4 0,.bool false,I4 0,I4 0,I4 0,.pointer none,.pointer none,I4 0,I4 0]) AG)<|AE fun O=>A6<|A2<|Zo Wh (A7 (cs:=#[_,_,_,_,_,_,_]) DE CN Y BW B5) ?_;refine Zo Wh (A7 (cs:=#[_,_,_,_,_,_,_,_,_,_]) G1 D2 Y BW B5) ?_;refine Zv (BK (vs:=[(0,.agg q.Ax4),(1,.agg c.Ax2)]) (cs:=(q.HU c none none 0 0)) Y (AY (pl:=#[(0,7),(7,10),(17,1),(18,1),(19,1),(20,1)]) zeroValue241 GW (fun _=>by kernel_rfl) AG))<|Ze (Ff zeroValue241 (cs:=#[I4 0,I4 0,I4 0,I4 0,I4 0,I4 0,I4 0,I4 0,I4 0,.bool false,I4 0,I4 0,I4 0,.bool false,I4 0,I4 0,I4 0,.pointer none,.pointer none,I4 0,I4 0]) AG)<|AE fun M=>Xe (Ao X1 Y Y ar Wu (by exact Bj rfl) DO AH (by exact Aw _)) ?_;refine A6<|A2<|Zv (CV (vs:=[]) (us:=[_]) Y Y)<|AF Y<|B7 Y<|Zo Wh (A7 (cs:=#[_,_,_,_,_,_,_,_,_,_]) G1 D2 Y BW B5) ?_;refine Xr [_] Y call235 Y V (jg c) ?_;refine Sk 2 V<|Zc [_,_] Y call234 Y V (Ou q z y bq (Er c c.had c.o) c.had) ?_;rintro _ _ ⟨_,⟨E,s1,rfl,g,rfl⟩,rfl⟩;have I:IQ q c.had (Er c c.had c.o)=bfQ q c:=ZO q c c.had c.o
 rw [I]at g⊢;refine Sk 3 V<|Zh 17 GW V rfl N2 Y<|Xe (Zs N2 Y Y V (hi:=by(simp;done))) ?_;refine Zh 19 GW V rfl A4 Y<|Xe (Zs A4 Y Y V (hi:=by(simp;done))) ?_;refine Z0<|Zn [3,4,5,6] ?_;refine Zx<|B7 Y<|Zo Wh (A7 (cs:=#[_,_,_,_,_,_,_,_,_,_]) G1 D2 Y BW B5) ?_;refine Xr [_] Y call73 Y V (SE c) ?_;refine Sk 2 V<|Zc [_,_] Y call234 Y V (Ou q z y bq (Er c c.has c.n) c.has) ?_;rintro _ _ ⟨_,⟨G,s2,rfl,m,rfl⟩,rfl⟩;have J:IQ q c.has (Er c c.has c.n)=afQ q c:=ZO q c c.has c.n
 rw [J]at m⊢;refine Sk 3 V<|Zh 18 GW V rfl N2 Y<|Xe (Zs N2 Y Y V (hi:=by(simp;done))) ?_;refine Zh 20 GW V rfl A4 Y<|Xe (Zs A4 Y Y V (hi:=by(simp;done))) ?_;refine Z0<|Zn [4,5] ?_;refine BT<|Zo Wh (A7 cN X1 Y BW (by exact AP V)) ?_;refine Xe (Ao X1 Y Y ar Wu (by exact Bj rfl) DO AH (by exact Aw _)) ?_;refine A6<|AC<|Df V results189 Y Wh (Ai cN X1 Wn (AP V)) (by exact ⟨E,G,s1,s2,V,g,m,V⟩)
theorem Gs(q:QM)(c:Chg)(g m:C1)(o n:Int):(Value.agg (q.HU c g m o n)).cells=(q.HU c g m o n):=by simp [Value.cells]
theorem ah(q:QM)(c:Chg)(g m:C1)(o n:Int):BB prog 221 #[.agg (q.HU c g m o n)] [] (.bool (g.isSome||m.isSome)):=by
 refine Se func221 ntmps221 [0] ?_;intro u R;refine A2<|Ze (J2 Y (cs:=(q.HU c g m o n)) (Gs q c g m o n))<|AE fun z=>AF Y<|A2<|Zh 17 GW V rfl N2 Y<|Zl Pu Y ?_;refine Zv (GV UP Y Y)<|Zm Y<|Ae (t:=6) Y V (fun y=>?_) (fun y=>?_);focus
  refine Sk 4 V ?_
 rotate_left
 focus
  refine Yf 18 GW V rfl N2 Y<|Yl Pu Y ?_;refine Yg (GV UP Y Y)<|Zv (BC Y Y) ?_
 all_goals
  refine AM Y<|AO rfl results221 Y (by exact ⟨by first|rfl|simp [y],rfl⟩)
theorem TJ(q:QM)(c:Chg)(g m:C1)(o n:Int):BB prog 223 #[.agg (q.HU c g m o n)] [] (.bool (g.isSome !=m.isSome)):=by
 refine Se func223 ntmps223 [0] ?_;intro u R;refine A2<|Ze (J2 Y (cs:=(q.HU c g m o n)) (Gs q c g m o n))<|AE fun y=>AF Y<|A2<|Zh 17 GW V rfl N2 Y<|Zl Pu Y ?_;refine Zv (O9 UP Y Y)<|Zh 18 GW V rfl N2 Y<|Zl Pu Y ?_;refine Zv (O9 UP Y Y)<|Zv (Ho MY Y Y)<|AM Y<|AO V results223 Y (by exact ⟨by cases g<;>cases m<;>rfl,V⟩)
theorem vS(q:QM)(c:Chg)(g m:C1)(o n:Int):BB prog 225 #[.agg (q.HU c g m o n)] [] (.bool (decide (o≠n))):=by
 refine Se func225 ntmps225 [0] ?_;intro u R;refine A2<|Ze (J2 Y (cs:=(q.HU c g m o n)) (Gs q c g m o n))<|AE fun y=>AF Y<|A2<|Zh 19 GW rfl rfl A4 Y<|Zl A5 Y<|Zh 20 GW rfl rfl A4 Y<|Zl A5 Y<|Zv (ED Y Y)<|AM Y<|AO rfl results225 Y (by exact ⟨by first|rfl|simp,rfl⟩)
theorem vR(q:QM)(c:Chg)(g m:C1)(o n:Int):BB prog 227 #[.agg (q.HU c g m o n)] [] (.bool ((g.isSome !=m.isSome)||decide (o≠n))):=by
 refine Se func227 ntmps227 [0] ?_;intro u R;refine A2<|Ze (J2 Y (cs:=(q.HU c g m o n)) (Gs q c g m o n))<|AE fun z=>AF Y<|A2<|Zo Wh (A7 cN X1 Y BW (AP V)) ?_;refine Xr [_] Y call223 Y V (TJ q c g m o n) ?_;refine Zm Y<|Ae (t:=5) Y V (fun y=>?_) (fun y=>?_);focus
  refine Sk 6 V ?_
 rotate_left
 focus
  refine Yf 19 GW V rfl A4 Y<|Yl A5 Y ?_;refine Yf 20 GW V rfl A4 Y<|Yl A5 Y ?_;refine Yg (ED Y Y)<|Zv (BC Y Y) ?_
 all_goals
  refine AM Y<|AO V results227 Y (by exact ⟨by simp [y],V⟩)
theorem vQ(q:QM)(c:Chg)(g m:C1)(o n:Int):BB prog 230 #[.agg (q.HU c g m o n)] [] (.bool ((g.isSome !=m.isSome)||decide (o≠n))):=by
 refine Se func230 ntmps230 [0] ?_;intro u R;refine A2<|Ze (J2 Y (cs:=(q.HU c g m o n)) (Gs q c g m o n))<|AE fun z=>AF Y<|A2<|Zo Wh (A7 cN X1 Y BW (AP V)) ?_;refine Xr [_] Y call223 Y V (TJ q c g m o n) ?_;refine Zm Y<|Ae (t:=5) Y V (fun y=>?_) (fun y=>?_);focus
  refine Sk 6 V ?_
 rotate_left
 focus
  refine Yf 19 GW V rfl A4 Y<|Yl A5 Y ?_;refine Yf 20 GW V rfl A4 Y<|Yl A5 Y ?_;refine Yg (ED Y Y)<|Zv (BC Y Y) ?_
 all_goals
  refine AM Y<|AO V results230 Y (by exact ⟨by simp [y],V⟩)
theorem vP(q:QM)(c:Chg)(g m:C1)(o n:Int):BB prog 232 #[.agg (q.HU c g m o n)] [] (.bool ((g.isSome||m.isSome)||decide (c.t=q.ot))):=by
 refine Se func232 ntmps232 [0] ?_;intro u R;refine A2<|Ze (J2 Y (cs:=(q.HU c g m o n)) (Gs q c g m o n))<|AE fun z=>AF Y<|A2<|Zo Wh (A7 cN X1 Y BW (AP V))<|Xr [_] Y call221 Y V (ah q c g m o n)<|Zm Y<|Ae (t:=5) Y V (fun y=>?_) (fun y=>?_);focus
  refine Sk 8 V ?_
 rotate_left
 focus
  refine Yf 7 GW V rfl D2 Y<|Yg (Aj (off:=0) CM V rfl A4 Y)<|Yl A5 Y<|Yf 0 GW V rfl CN Y<|Yg (Aj (off:=6) CH V rfl A4 Y)<|Yl A5 Y<|Yg (Bd Y Y)<|Zv (BC Y Y) ?_
 all_goals
  refine AN Y<|Zn [2] ?_;refine Zx<|AC<|AO V results232 Y (by exact ⟨by simp [y],V⟩)
def RL(pd:AV->Bool)(rows:List AV):Int:=(rows.findIdx? pd).elim (-1) fun i=>(i:Int)
theorem qi{g:AV->Bool}{rows:List AV}{i:Nat}{x:AV}(h:∀(j:Nat) (y:AV),j<i->rows[j]?=some y->g y=false)(hx:rows[i]?=some x)(z:g x=true):RL g rows=(i:Int):=by
 obtain ⟨hi,rfl⟩:=D3.1 hx;unfold RL;rw [Sp.2 ⟨hi,z,fun j m=>by simp [h j _ m (Bk A0)]⟩];rfl
theorem qj{m:AV->Bool}{rows:List AV}(h:∀(j:Nat) (y:AV),j<rows.length->rows[j]?=some y->m y=false):RL m rows=-1:=by
 unfold RL;rw [Z2.2 fun y hy=>by
  obtain ⟨j,g⟩:=JT hy;exact h j y (D3.1 g).1 g]
 rfl
theorem lQ(g:AV->Bool)(rows:List AV):(RL g rows=-1/\∀y∈rows,g y=false)\/∃(i:Nat) (x:AV),RL g rows=(i:Int)/\rows[i]?=some x/\g x=true/\∀(j:Nat) (y:AV),j<i->rows[j]?=some y->g y=false:=by
 unfold RL;cases h:rows.findIdx? g with
 |none=>exact .inl ⟨rfl,Z2.1 h⟩
 |some i=>
  obtain ⟨m,h2,z⟩:=Sp.1 h;refine .inr ⟨i,_,V,Bk m,h2,fun j y E hy=>?_⟩;obtain ⟨G,rfl⟩:=D3.1 hy;simpa using z j E
theorem oh{rs:List AV}{k:Nat}(g:k<rs.length)(x:AV):(Aa rs).take (k*5)++Aa [x]++(Aa rs).drop (k*5+(Aa [x]).length)=Aa (rs.set k x):=by
 rw [show k*5+(Aa [x]).length=(k+1)*5 by rw [BG];simp;omega,DV,DF,<-BR,<-BR,fb,B2 g];simp
theorem aC{cur:As}{rs:List AV}{k:Nat}{x:AV}(g:CY cur 0 (Aa rs))(hx:rs[k]?=some x):k*5+5<=cur.size/\cur.extract (0+k*5) (0+k*5+5)=(Aa [x]).toArray:=by
 have J:=(D3.1 hx).1;have I:k*5+5<=cur.size:=by
  have E:=KR hx 4 AH;have G:=g.get (k*5+4) _ (E.trans B5)
  have:=(LO.1 G).1;omega
 refine ⟨I,?_⟩;apply L5.1;apply S8;intro j;rw [Kf,cU];split
 · rename_i hj
   have m:j<5:=by omega
   have y:=KR hx j m;obtain ⟨u,z⟩:∃u,(Aa [x])[j]?=some u:=⟨_,Bk (by rw [BG];simpa using m)⟩;rw [z]at y;have h2:=g.get _ _ y
   rw [Dd]at h2;rw [Dd,h2];exact z.symm
 · rw [RC]
   show(Aa [x]).length<=j;rw [BG];simp only [HI];omega
theorem Y1{α:Type}{xs:List α}{i:Nat}(hi:i<xs.length)(x:α):(xs.set i x).take (i+1)=xs.take i++[x]:=by
 rw [fb,B2 hi,List.take_append,CI,OR A0];rw [Hx (by rw [CI];omega),show i+1 -i=1 by omega];simp
theorem Ms{rows:List AV}{j:Nat}{x:AV}(f:AV->Bool)(hx:rows[j]?=some x):(rows.take (j+1)).filter f=(rows.take j).filter f++(if f x then [x]else []):=by
 rw [Bt hx,Lz];congr 1;rw [ju,kB]
theorem OL{rows:List AV}{f:AV->Bool}(h:∀(j:Nat) (y:AV),rows[j]?=some y->f y=true):rows.filter f=rows:=List.filter_eq_self.2 fun y hy=>by
 obtain ⟨j,g⟩:=JT hy;exact h j y g
theorem TY{A B:List AR}{v:A3}{rows:List AV}(hv:CZ A v rows)(z:Nat)(us:List A3)(O:AV->Bool)(K:∀(args:As) (w:AD),(callFunc z args).run prog w= .ok (.enter z args) w)(Z:∀x:AV,BB prog z (.agg x.Ax3::us).toArray [B] (.bool (O x))):BB prog 82 #[v,.func (.func z) #[] us.toArray] [A,B] (I4 (RL O rows)):=by
 have ax:=mL;obtain ⟨p,cap,rfl,⟨hl,af⟩,hg⟩:=id hv;refine Se func82 ntmps82 [0,1] ?_;intro u R;refine A2<|AF Y<|C0 Y<|Zv (AJ B0 Y)<|Zm Y<|A6<|AQ<|Zb [8,0,1,7] ?_;refine Av (e0:=[(8,_)]) (fun m e H=>∃(i:Nat),m=rows.length -i/\(i<=rows.length/\∀(j:Nat) (y:AV),j<i->rows[j]?=some y->O y=false)/\e=[(8,I4 (i:Int))]/\H=[]) (by exact ⟨0,V,⟨CD _,fun j y h=>by omega⟩,V,V⟩) Wp ?_;rintro _ _ _ ⟨i,rfl,⟨hi,E⟩,rfl,rfl⟩;refine A2<|Zv (Ak Y Y)<|A6<|Zq<|Ad Y (fun J=>?_) (fun J=>?_);·
  obtain ⟨x,hx⟩:∃x,rows[i]?=some x:=⟨_,Bk J⟩;obtain ⟨g,off,cur,T,zz,rfl,M,U,I⟩:=hg i x hx;refine B3<|Zq<|AQ<|B7 Y<|AF Y<|A2<|Sk 3 V ?_;refine BN (A9 B0 AW Y Y A0)<|Cj (cs:=[(g,.cells cur T zz)]) (by simp [M]) (A7 (cs:=x.Ax3) C5 AW Y A0 I) V rfl<|Xr [_] Y (K) Y V (Z x)<|A6<|Af Y (fun G=>?_) (fun G=>?_);·
   refine B7 Y<|AM Y<|AX<|Zt<|Zt<|AX<|Zt<|AO V fS Y (by exact ⟨congrArg (Value.int .i64) (qi E hx G).symm,V⟩)
  refine AB<|A8<|Zx<|GP Y Y Y<|HN (by exact ⟨i+1,rfl,⟨by omega,fun j y h1 h2=>by rcases FA j i with h9|h9;exact E j y h9 h2;obtain rfl:j=i:=A0;rw [hx]at h2;injection h2 with h2;subst h2;exact G⟩,rfl,rfl⟩)
 have X:i=rows.length:=by omega
 subst X;refine Az<|Zt<|Zt<|AU<|BT<|AM Y<|AO V fS Y (by exact ⟨congrArg (Value.int .i64) (qj E).symm,V⟩)
set_option maxHeartbeats 1000000 in
theorem aT{B s:List AR}{v:A3}{rows:List AV}(E:BS 5 91 v rows.length (Aa rows) s)(hn:rows.length<=1000000000)(I:Nat)(us:List A3)(M:AV->Bool)(af:∀(args:As) (w:AD),(callFunc I args).run prog w= .ok (.enter I args) w)(hf:∀x:AV,BB prog I (.agg x.Ax3::us).toArray [B] (.bool (M x))):CJ prog 263 #[v,.func (.func I) #[] us.toArray] [s,B] (fun r H'=>∃s',BS 5 91 r (rows.filter fun x=>!M x).length (Aa (rows.filter fun x=>!M x)) s'/\H'=[s',B]):=by
 have o8:=mL;obtain ⟨p,cap,rfl⟩:=E.form;have hU:=Ca E A0
 refine Se func263 ntmps263 [0,1] ?_;intro u R;refine A2<|AF Y<|A2<|Sk 2 V<|Xr [_,_] Y call82 Y V (TY hU I us M af hf) ?_;rcases lQ M rows with⟨e9,O⟩|⟨k,x0,e9,hx0,hp0,hno⟩
 ·
  rw [e9];refine AF Y<|C0 Y<|Zv (Bd Y Y)<|A6<|Ad Y (fun h1=>?_) (fun h1=>?_);·
   refine B7 Y<|AM Y<|Zt<|AO rfl results263 Y (by exact ⟨_,BJ E (congrArg List.length (OL fun j y hy=>by rw [O y (Fm hy)];rfl).symm) (congrArg Aa (OL fun j y hy=>by rw [O y (Fm hy)];rfl).symm),rfl⟩)
  exact absurd V h1
 rw [e9];have mR:=(D3.1 hx0).1
 obtain ⟨g,gq,cur,z,gm,rfl,kz,kv⟩:=EG E A0;injection gm with hv1 hv2 hv3
 subst hv1 hv3;refine AF Y<|C0 Y<|Zv (Bd Y Y)<|A6<|Ad Y (fun h2=>by omega)<|fun h2=>B3<|C0 Y<|Ya (n:=1) Y Y<|AF Y<|AQ<|Zb [5,6,0,1] ?_;refine Av (e0:=[(5,_),(6,_)]) (fun m e H=>∃(i j:Nat) (W:List AV) (cur:As),m=rows.length -j/\((i<j/\j<=rows.length)/\W.length=rows.length/\BS 5 91 (I6 g rows.length cap) rows.length (Aa W) [(g,.cells cur 91 z)]/\W.take i=(rows.take j).filter (fun x=>!M x)/\∀t,j<=t->W[t]?=rows[t]?)/\e=[(5,I4 (i:Int)),(6,I4 (j:Int))]/\H=[[(g,.cells cur 91 z)]]) (by exact ⟨k,k+1,rows,cur,rfl,⟨⟨by omega,by omega⟩,rfl,E,by rw [Ms _ hx0,hp0];simp only [S2,PC,LN,HT];exact (OL (fun j y hy=>by rw [I3]at hy;split at hy;rw [hno j y Xs hy];rfl;cases hy)).symm,fun t _=>rfl⟩,rfl,rfl⟩) Wp ?_;rintro _ _ _ ⟨i,j,W,cur,rfl,⟨lv,Z,K,J,X⟩,rfl,rfl⟩;obtain ⟨bn,ax,l8,gy,U⟩:=KQ K;refine Zq<|A2<|Sk 2 V<|Zv (AJ B0 Y)<|Zv (Ak Y Y)<|A6<|Ad Y (fun cu=>?_) (fun cu=>?_);·
  obtain ⟨x,hx⟩:∃x,rows[j]?=some x:=⟨_,Bk cu⟩;obtain ⟨l9,bf⟩:=aC bn ((X j (B4 _)).trans hx);refine B3<|Zq<|AQ<|A2<|Sk 2 V ?_;refine BN (A9 B0 AW Y Y A0)<|Zo Wh (A7 (cs:=x.Ax3) C5 AW Y A0 bf)<|Ze (Al DS #[_,_,_,_,_])<|AE fun bx=>Xe (Xw AW x.Ax3)<|A6<|B7 Y<|Zo Wh (A7 (cs:=#[_,_,_,_,_]) C5 AW Y BW B5)<|Xr [_] Y (af) Y V (hf x)<|Zv (CR Y)<|Z0<|Zn [0,1,5,6,7,29] ?_;refine Zx<|Af Y (fun G=>?_) (fun G=>?_);·
   have G:M x=false:=by simpa using G
   have cO:=BJ (xs':=Aa (W.set i x)) (Ei (i:=0+i*5) (ys:=Aa [x]) K (by rw [BG,BG,HI];omega)) rfl (by rw [Dd];exact oh A0 x);refine A2<|Sk 2 rfl<|Zo Wh (A7 (cs:=#[_,_,_,_,_]) C5 AW Y BW B5)<|BN (A9 B0 AW Y Y A0)<|Xe (Ao AW Y Y Ft Wu (by exact (rfl:_=FE cur (0+i*5) (Aa [x]))) DO A0 U)<|A6<|Zg<|Zm Y<|Ya (n:=1) Y Y<|AN Y<|A8<|Zx<|Zg<|Zm Y<|Ya (n:=1) Y Y<|AN Y<|DH (e:=[(5,_),(6,_)]) (h:=by exact ⟨i+1,j+1,W.set i x,_,rfl,⟨by omega,by rw [Hb];exact Z,cO,by rw [Y1 A0,J,Ms _ hx];simp [G],fun t ht=>by rw [List.getElem?_set_ne A0];exact X t A0⟩,rfl,rfl⟩)
  have G:M x=true:=by simpa using G
  refine AB<|A8<|Zx<|Zg<|Zm Y<|Ya (n:=1) Y Y<|AN Y<|DH (e:=[(5,_),(6,_)]) (h:=by exact ⟨i,j+1,W,cur,rfl,⟨by omega,Z,K,by rw [J,Ms _ hx];simp [G],fun t ht=>X t A0⟩,rfl,rfl⟩)
 have ej:j=rows.length:=by omega
 subst ej;rw [HJ]at J;have ek:(rows.filter fun x=>!M x).length=i:=by rw [<-J,CI];omega
 refine Az<|Zt<|Zt<|AU<|BT<|Sk 2 V ?_;refine BN (Bv B0 AW Y Y A0)<|Ze (Oa B0 (V:Tryz.prog.info? 91=some Tryz.t91) V rfl (by simp [Value.cells,Value.oneCell']) Y A0 ax U Wo) ?_;rintro _ _ rfl;have d9:=V5 (Ei (i:=i*5) (ys:=(Builtin.zeroCells (Value.agg #[I4 0,I4 0,I4 0,I4 0,I4 0]).cells (rows.length -i)).toList) K (by rw [TO,size_zeroCells,BG];show i*5+(rows.length -i)*5<=_;omega)) i A0
 refine A6<|A2<|Sk 2 V ?_;refine BN (Bb B0 AW Y Y A0)<|AM Y<|AO V results263 Y (by
  refine ⟨_,BJ d9 ek.symm ?_,V⟩;rw [G0,L7 (by rw [CI,BG];omega),DV,J])
theorem qh{A Y D:List A3}{i n:Nat}(g:A.length=(n+1)*5)(hi:i<=n)(y:Y.length=5)(m:D.length=(n -i)*5):(A.take (0+i*5)++Y++A.drop (0+i*5+Y.length)).take (0+(i+1)*5)++D++(A.take (0+i*5)++Y++A.drop (0+i*5+Y.length)).drop (0+(i+1)*5+D.length)=A.take (i*5)++Y++D:=by
 rw [Dd,Dd,L7 (by rw [C7,CI];omega),S3 (by simp only [C7,CI,D4];omega),HT]
theorem lK{A Y D:List A3}{i n:Nat}(g:A.length=(n+1)*5)(hi:i<=n)(y:Y.length=5)(m:D.length=(n -i)*5):(A.take (0+(i+1)*5)++D++A.drop (0+(i+1)*5+D.length)).take (0+i*5)++Y++(A.take (0+(i+1)*5)++D++A.drop (0+(i+1)*5+D.length)).drop (0+i*5+Y.length)=A.take (i*5)++Y++D:=by
 rw [Dd,Dd,S3 (l:=A) A0,HT,aw (by rw [CI];omega),Wc,OR A0,SJ (by rw [CI];omega)]
theorem Y4(rows:List AV)(i:Nat)(y:AV):(Aa rows).take (i*5)++Aa [y]++Aa (rows.drop i)=Aa (rows.take i++[y]++rows.drop i):=by
 rw [DV,BR,BR]
theorem Tw{c:As}{rows:List AV}(h:CY c 0 (Aa rows))(i:Nat)(hi:i<=rows.length):CY c (0+i*5) (Aa (rows.drop i)):=by
 have g:=Jg h (i*5) ((rows.length -i)*5) (by rw [BG];omega);rw [DF,Hx (by rw [BG,D4];omega)]at g;exact g
theorem fP{c:As}{rows:List AV}(h:CY c 0 (Aa rows))(i:Nat)(hi:i<=rows.length):CY c 0 (Aa (rows.take i)):=by
 have g:=Jg h 0 (i*5) (by rw [BG];omega);rw [RR,DV]at g;exact g
theorem XJ(rows:List AV)(i:Nat)(hi:i<=rows.length)(y:AV):(rows.take i++[y]++rows.drop i).length=rows.length+1:=by
 simp only [C7,CI,D4,HI];omega
set_option maxHeartbeats 1000000 in
theorem ZH{s:List AR}{v:A3}{rows:List AV}(m:BS 5 91 v rows.length (Aa rows) s)(hn:rows.length<=1000000000)(i:Nat)(hi:i<=rows.length)(y:AV)(M:Nat):CJ prog 264 #[v,I4 (i:Int),I6 M 1 1] [s,[(M,.cells y.Ax3 91 (0,0))]] (fun r H'=>∃s' s2,BS 5 91 r (rows.take i++[y]++rows.drop i).length (Aa (rows.take i++[y]++rows.drop i)) s'/\H'=[s',s2,[(M,.cells y.Ax3 91 (0,0))]]):=by
 have mR:=mL;obtain ⟨p,cap,rfl⟩:=m.form;have lv:=Ew m
 refine Se func264 ntmps264 [0,1,2] ?_;intro u R;refine A2<|CT Y<|Bi<|Zg<|Sk 2 V ?_;refine BN (Bv B0 AW Y Y A0)<|A6<|B7 Y<|Zv (AJ B0 Y)<|AF Y<|C0 Y<|Zv (Bg (n:=0) Y Y)<|A6<|Ad Y (fun h0=>by cases h0)<|fun h0=>B3<|B7 Y<|Zv (AJ B0 Y)<|CT Y<|A2<|Sk 2 V<|Zv (Bg Y Y)<|Z0<|Zn [0,1,2,7,8,22] ?_;refine Zx<|Ad Y (fun O=>?_) (fun O=>?_);·
  refine A2<|Sk 2 V ?_;refine Ze (BL (by_:=40) (sz:=5) B0 (V:Tryz.prog.info? 91=some Tryz.t91) V rfl V rfl Y (m) Y (D7 5 M 1 1 91 (0,0) (Aa [y]) V) Wo Wo (by exact CK _) A0 A0) ?_;rintro _ _ ⟨o8,K,rfl⟩;obtain ⟨kz,kv,rfl⟩:=K.form;refine AM Y<|Zt<|AO V results264 Y (by
   have O:i=rows.length:=by omega
   subst O;exact ⟨_,[],BJ K (XJ rows _ (B4 _) y).symm (by rw [HJ,mc,HT,BR]),rfl⟩)
 obtain ⟨g,cu,cur,z,bf,rfl,gy,G⟩:=EG m A0;injection bf with hv1 hv2 hv3
 subst hv1 hv3;obtain ⟨_,l9,_,l8,X⟩:=KQ m;refine B3<|Zq<|A2<|Sk 2 V<|Ya Y Y<|Zm Y<|Zv (Qz B0 Y)<|Zv (CW Y Y)<|A6<|Ad Y (fun hg=>?_) (fun hg=>?_);·
  refine A2<|Sk 2 V ?_;refine BN (Bb B0 AW Y Y A0)<|Sk 2 V<|Ya Y Y<|Zm Y<|Yb Y Y ?_;refine Ze (M8 (by_:=40) (sz:=5) (xs:=Aa (rows.take i)) B0 Ge (rfl:Tryz.prog.info? 91=some Tryz.t91) rfl rfl rfl rfl Y Y Wh (fP G i hi) (by rw [BG,CI];omega) A0 AH A0 A0 A0) ?_;rintro _ _ ⟨s9,I,rfl⟩;rw [show i+(rows.length+1 -i)=rows.length+1 by omega]at I;have E:=I.1
  obtain ⟨g3,bn,cO,z3,rfl,rfl,gq,gm⟩:=EG I A0;obtain ⟨_,ek,_,d9,J⟩:=KQ I;refine AN Y<|Zn [0,1,2,7,9] ?_;refine BT<|Sk 2 V ?_
  (refine BN (CO B0 AW Y Y ?_ ?_) ?_;(focus (omega));(focus (omega)))
  refine Zm Y<|Xe (KJ (cs:=Aa [y]) B0 AW Y Y Wh Wo ((rfl:CY (y.Ax3:As) 0 (Aa [y]))) (by rw [BG,HI];omega) (by rw [BG,HI];omega) (J) (CK _)) ?_;refine A6<|Zq<|Au (n:=9) (0::0::0::6::15::0::0::96::255::[]) 256 AG AG V<|A1 0 V (AA Y)<|A1 1 V (AA Y)<|A1 2 V (AA Y)<|A1 3 V (Ce Y Y A0) ?_
  (refine Dr (D':=31) 4 (CO B0 AW Y Y ?_ ?_) ?_;(focus (omega));(focus (omega)))
  refine A1 5 V (AA Y)<|A1 6 V (AA Y) ?_
  (refine Dr (D':=255) 7 (CO B0 AW Y Y ?_ ?_) ?_;(focus (omega));(focus (omega)))
  refine Yw 8 511 rfl (KJ (cs:=Aa (rows.drop i)) B0 AW Y Y Wh Wo (Tw G i hi) (by rw [BG,D4];omega) (by rw [BG,D4,H8 (by rw [BG,HI];omega)];omega) (by rw [H8 (by rw [BG,HI];omega)];exact J) (CK _))<|DA<|Am<|Zn [9] ?_;refine Zx<|B7 Y<|AM Y<|Zt<|AO V results264 Y (by
   refine ⟨_,[(g,.cells cur 91 z)],BJ (Ei (i:=0+(i+1)*5) (ys:=Aa (rows.drop i)) (Ei (i:=0+i*5) (ys:=Aa [y]) I (by rw [E,BG,HI];omega)) ?_) (XJ rows i hi y).symm ?_,rfl⟩;· simp only [C7,CI,D4,E,BG,HI];omega
   · rw [qh E hi (by rw [BG];rfl) (by rw [BG,D4]),L7 (by rw [BG,CI];omega),<-DV,Y4])
 refine B3<|Zq ?_;obtain ⟨o9,ax,af⟩:=V4 m (rows.length+1) A0 A0;have E:=af.1
 refine Zg<|Sk 3 V<|Ya Y Y ?_;refine BN (Bb B0 AW Y Y A0)<|CT Y<|Zq<|xW (s1:=[(M,_)]) (s2:=[(g,_)]) (a:=M) (b:=g) Wo Wo (HA.2 V) (HA.2 V) (fun Z=>?_);refine Zg<|Sk 4 V<|Ya Y Y ?_
 (refine BN (CO B0 AW Y Y ?_ ?_) ?_;(focus (omega));(focus (omega)))
 refine Cj (cs:=[(M,.cells y.Ax3 91 (0,0)),(g,.cells cur 91 z)]) C4 (T9 (tR:=4) func275 AG AG AG AG B0 AW Y Z A0) V rfl ?_;refine Zv (CR Y)<|Z0<|Zn [0,1,2,7,8,68] ?_;refine Zx<|Af Y (fun U=>?_) (fun U=>?_);·
  refine Zq<|Au (n:=9) (0::0::0::6::15::0::0::96::255::[]) 256 AG AG V<|A1 0 V (AA Y)<|A1 1 V (AA Y)<|A1 2 V (AA Y)<|A1 3 V (Ce Y Y A0) ?_
  (refine Dr (D':=31) 4 (CO B0 AW Y Y ?_ ?_) ?_;(focus (omega));(focus (omega)))
  refine A1 5 V (AA Y)<|A1 6 V (AA Y) ?_
  (refine Dr (D':=255) 7 (CO B0 AW Y Y ?_ ?_) ?_;(focus (omega));(focus (omega)))
  refine Yw 8 511 rfl (KJ (cs:=Aa (rows.drop i)) B0 AW Y Y Wh Wo (Tw G i hi) (by rw [BG,D4];omega) (by rw [BG,D4];omega) (X) (CK _))<|DA<|Am<|BT<|Sk 2 V ?_
  (refine BN (CO B0 AW Y Y ?_ ?_) ?_;(focus (omega));(focus (omega)))
  refine Zm Y<|Xe (KJ (cs:=Aa [y]) B0 AW Y Y Wh Wo ((rfl:CY (y.Ax3:As) 0 (Aa [y]))) (by rw [BG,HI];omega) (by rw [BG,HI,H8 (by rw [BG,D4];omega)];omega) (by rw [H8 (by rw [BG,D4];omega)];exact X) (CK _)) ?_;refine Z0<|Zn [0] ?_;refine Zx<|B7 Y<|AM Y<|Zt<|AO V results264 Y (by
   refine ⟨_,[],BJ (Ei (i:=0+i*5) (ys:=Aa [y]) (Ei (i:=0+(i+1)*5) (ys:=Aa (rows.drop i)) af (by rw [E,BG,D4];omega)) ?_) (XJ rows i hi y).symm ?_,rfl⟩;· simp only [C7,CI,D4,BG,ax,HI];omega
   · rw [lK E hi (by rw [BG];rfl) (by rw [BG,D4]),aw (by rw [BG];omega),Y4])
 cases U
end Go.Proofs.YtljkoipiekbijaaGreatDoor
