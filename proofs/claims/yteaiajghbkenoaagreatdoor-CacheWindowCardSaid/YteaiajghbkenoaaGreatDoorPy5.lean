/- statetree: Verify. -/
/- What Prove returns is complete, right, and about the rows of the range: in plain words. -/
/- The integers that a law picks; the rows of a log. -/
/- The fixed example of the law of chapter 10: its rows, and its digests. -/
/- sane of the law of chapter 10. -/
/- proof.Make, for queries that are not joins. -/
/- proof.Start on what Make returns, for queries that are not joins. -/
/- What Start makes of proofs; what Make returns; proofs in memory. -/
/- proof.Make, for all queries. -/
/- proof.Start on any proofs of which something follows. -/
/- slices.Clone of proofs and records; proof.Build. -/
import Derived.Test.YteaiajghbkenoaaGreatDoorEz
import Derived.Test.YteaiajghbkenoaaGreatDoorTr8
import Derived.Test.YteaiajghbkenoaaGreatDoorQe1
import Derived.Test.YteaiajghbkenoaaGreatDoorTr6
import Derived.Test.YteaiajghbkenoaaGreatDoorEx36
set_option linter.unusedVariables false
set_option linter.unusedSimpArgs false
namespace Go.Proofs.YteaiajghbkenoaaGreatDoor
open Go.Proofs.Tryz
open Go Go.RowKit Gw
set_option maxRecDepth 100000
attribute [local irreducible] Gw.At Gw.Nx Gw.Ops
structure yM(root:Bs)(x:RP):Prop where
 comp:G9 x
 n16:x.roots.length=16
 np:x.paths.length=x.rows.length
 root:DU x.roots=root
 sum:∃d:Bs,d.length=32/\x.roots[4*x.tb.toNat+x.cl.toNat]?=some (Sz x.ct++d)/\(x.ct=0->d=DU [])/\
  (x.ct≠0->∀(k:Nat) (r:AQ) (pf:List Bs),x.rows[k]?=some r->x.paths[k]?=some pf->yT d x.ct.toNat (x.fi.toNat+k) (Pi r) pf=true)
noncomputable instance(root:Bs)(x:RP):Decidable (yM root x):=Classical.propDecidable _
theorem Sq{pd:AQ->Bool}:∀{l:List AQ} {i:Nat} {x:AQ},i<CP pd l->l[i]?=some x->pd x=false
 |[],i,x,_,hx=>by simp at hx
 |z::l,i,x,hi,hx=>by
  unfold CP at hi;rw [AE8]at hi;by_cases hz:pd z=true
  · rw [Am6 (by simp [hz])]at hi;simp at hi
  · have hz':pd z=false:=by simpa using hz
    rw [Am7 (by simp [hz'])]at hi;rcases i with _|i
    · simp at hx;rw [<-hx];exact hz'
    · simp only [AH0]at hx
      exact Sq (l:=l) (by unfold CP;simp at hi;omega) hx
theorem Pg{pd:AQ->Bool}:∀{l:List AQ} {x:AQ},l[CP pd l]?=some x->pd x=true
 |[],x,hx=>by simp at hx
 |z::l,x,hx=>by
  unfold CP at hx;rw [AE8]at hx;by_cases hz:pd z=true
  · rw [Am6 (by simp [hz])]at hx;simp at hx;rw [<-hx];exact hz
  · have hz':pd z=false:=by simpa using hz
    rw [Am7 (by simp [hz'])]at hx;simp only [ze,AH0]at hx;exact Pg (l:=l) hx
def ltV(c:Nat)(a b:AQ):Prop:=DR a c<DR b c\/DR a c=DR b c/\a.k<b.k
variable{rs:List AQ}
theorem S9(hs:BM rs)(t:Int)(c:Nat):(BC rs t c).Pairwise (ltV c):=by
 have h1:=ER hs t c (-1000000000) 1000000000;have h2:(rs.filter (inR t c (-1000000000) 1000000000)).Pairwise (fun a b=>a.k≠b.k):=(PZ hs fun r h=>fF h).imp (fun h=>by omega)
 have h3:(DY rs t c (-1000000000) 1000000000).Pairwise (fun a b=>a.k≠b.k):=((EI rs t c (-1000000000) 1000000000).pairwise_iff (fun h=>h.symm)).2 h2;exact (h1.and h3).imp (fun{a b} h=>by unfold ltV;obtain ⟨h4,h5⟩:=h;unfold leV at h4;omega)
variable{j i:Nat}
theorem vP{l:List AQ}{R:AQ->AQ->Prop}(h:l.Pairwise R){a b:AQ}(hij:i<j)(ha:l[i]?=some a)(hb:l[j]?=some b):R a b:=by
 obtain ⟨hi,rfl⟩:=zF.1 ha;obtain ⟨hj,rfl⟩:=zF.1 hb;exact AJ8.1 h i j hi hj hij
variable{t:Int}{c:Nat}
theorem Xi(hs:BM rs){a b:AQ}(hij:i<=j)(ha:(BC rs t c)[i]?=some a)(hb:(BC rs t c)[j]?=some b):DR a c<=DR b c:=by
 rcases Nat.eq_or_lt_of_le hij with rfl|h
 · rw [ha]at hb;injection hb with hb;rw [hb];exact AM6 _
 · have:=vP (S9 hs t c) h ha hb
   unfold ltV at this;omega
theorem fB(hs:BM rs)(t c:Nat)(lo:Int){r:AQ}(hr:(BC rs (t:Int) c)[i]?=some r):(CP (geV c lo) (BC rs (t:Int) c)<=i->lo<=DR r c)/\(i<CP (geV c lo) (BC rs (t:Int) c)->DR r c<lo):=by
 constructor
 · intro h
   have hlt:=(zF.1 hr).1;have hx:(BC rs (t:Int) c)[CP (geV c lo) (BC rs (t:Int) c)]?=some _:=zD Ao7
   have h1:=An1 (Pg hx);have h2:=Xi hs h hx hr
   omega
 · intro h
   have:=An3 (Sq h hr);omega
theorem fH(hs:BM rs)(t c:Nat)(hi:Int){r:AQ}(hr:(BC rs (t:Int) c)[i]?=some r):(CP (gtV c hi) (BC rs (t:Int) c)<=i->hi<DR r c)/\(i<CP (gtV c hi) (BC rs (t:Int) c)->DR r c<=hi):=by
 constructor
 · intro h
   have hlt:=(zF.1 hr).1;have hx:(BC rs (t:Int) c)[CP (gtV c hi) (BC rs (t:Int) c)]?=some _:=zD Ao7
   have h1:=An1 (Pg hx);have h2:=Xi hs h hx hr
   omega
 · intro h
   have:=An3 (Sq h hr);omega
theorem Sn(hs:BM rs)(t c:Nat)(lo hi:Int)(hlh:lo<=hi):CP (geV c lo) (BC rs (t:Int) c)<=CP (gtV c hi) (BC rs (t:Int) c):=by
 rcases AB1 (CP (gtV c hi) (BC rs (t:Int) c)) (CP (geV c lo) (BC rs (t:Int) c))with h|h
 · have h9:=GX (geV c lo) (BC rs (t:Int) c)
   have hx:(BC rs (t:Int) c)[CP (gtV c hi) (BC rs (t:Int) c)]?=some _:=zD Ao7;have h1:=(fH hs t c hi hx).1 (zh _)
   have h2:=(fB hs t c lo hx).2 h;omega
 · exact h
theorem Nu{l:List AQ}{f m:Nat}{r:AQ}(h:((l.drop f).take m)[j]?=some r):j<m/\l[f+j]?=some r:=by
 rw [AA7]at h;split at h
 · rw [AE1]at h;exact ⟨by assumption,h⟩
 · cases h
theorem eX{r:AQ}(h:r∈BC rs t c):r∈rs/\r.t=t:=by
 have:=AA2.1 ((EI rs t c _ _).mem_iff.1 h);exact ⟨this.1,fF this.2⟩
theorem NC(hs:BM rs)(t c:Nat)(lo hi:Int)(hlh:lo<=hi):Bj (BC rs (t:Int) c) c lo<=toT (BC rs (t:Int) c) c hi/\toT (BC rs (t:Int) c) c hi<=(BC rs (t:Int) c).length/\(0<(BC rs (t:Int) c).length->Bj (BC rs (t:Int) c) c lo<toT (BC rs (t:Int) c) c hi):=by
 have h1:=Sn hs t c lo hi hlh;have h2:=GX (geV c lo) (BC rs (t:Int) c)
 have h3:=GX (gtV c hi) (BC rs (t:Int) c);unfold Bj toT;omega
theorem iH(hs:BM rs)(t c:Nat)(lo hi:Int)(hlh:lo<=hi):(ES rs t c lo hi).rows.length=toT (BC rs (t:Int) c) c hi -Bj (BC rs (t:Int) c) c lo:=by
 have:=NC hs t c lo hi hlh;show(((BC rs (t:Int) c).drop _).take _).length=_
 rw [zN,zO];omega
theorem NV(hs:BM rs)(hn:rs.length<=2000)(hok:∀r∈rs,r.ok)(t c:Nat)(ht:t<=3)(hc:c<=3)(lo hi:Int)(hlh:lo<=hi):G9 (ES rs t c lo hi):=by
 have h1:=Sn hs t c lo hi hlh;have h2:=GX (geV c lo) (BC rs (t:Int) c)
 have h3:=GX (gtV c hi) (BC rs (t:Int) c);have h4:=NC hs t c lo hi hlh
 have h5:=iH hs t c lo hi hlh;have hll:=Iu hs (t:Int) c
 have hf:Bj (BC rs (t:Int) c) c lo=CP (geV c lo) (BC rs (t:Int) c) -1:=rfl;have hto:toT (BC rs (t:Int) c) c hi=min (CP (gtV c hi) (BC rs (t:Int) c)+1) (BC rs (t:Int) c).length:=rfl
 have hv:∀r:AQ,Be r ((c:Nat):Int)=DR r c:=fun r=>Kr r c hc;refine ⟨⟨⟨?_,?_⟩,?_,?_⟩,hlh,⟨?_,?_⟩,⟨?_,?_⟩,?_,?_,?_,?_,?_⟩
 · show(0:Int)<=(t:Int);omega
 · show(t:Int)<4;omega
 · show(0:Int)<=(c:Int);omega
 · show(c:Int)<4;omega
 · show(0:Int)<=((BC rs (t:Int) c).length:Int);omega
 · show((BC rs (t:Int) c).length:Int)<=2000;omega
 · show(0:Int)<=((Bj (BC rs (t:Int) c) c lo:Nat):Int);omega
 · show((Bj (BC rs (t:Int) c) c lo:Nat):Int)<=((BC rs (t:Int) c).length:Int);omega
 · rw [h5];show _<=((BC rs (t:Int) c).length:Int) -((Bj (BC rs (t:Int) c) c lo:Nat):Int);omega
 · rw [h5];intro h0;show((BC rs (t:Int) c).length:Int)=0;omega
 · intro j r hr
   obtain ⟨hj,hr2⟩:=Nu hr;have hm:=eX (zP hr2)
   have hlo:=fB hs t c lo hr2;have hhi:=fH hs t c hi hr2
   refine ⟨⟨hok r hm.1,hm.2,?_,?_⟩,?_⟩
   · intro h;change Be r (c:Int)<lo at h;rw [hv]at h;omega
   · intro h;change hi<Be r (c:Int)at h;rw [hv]at h;rw [h5];omega
   · intro hj0 q hq
     obtain ⟨_,hq2⟩:=Nu hq;have:=vP (S9 hs (t:Int) c) Ao7 hq2 hr2
     unfold TS;show Be q (c:Int)<Be r (c:Int)\/Be q (c:Int)=Be r (c:Int)/\q.k<r.k
     rw [hv,hv];exact this
 · intro r hr
   obtain ⟨_,hr2⟩:=Nu hr;have hlo:=fB hs t c lo hr2
   show((Bj (BC rs (t:Int) c) c lo:Nat):Int)=0\/Be r (c:Int)<lo;rw [hv];omega
 · intro r hr
   rw [h5]at hr⊢;obtain ⟨hj,hr2⟩:=Nu hr;have hhi:=fH hs t c hi hr2
   show((Bj (BC rs (t:Int) c) c lo:Nat):Int)+_=((BC rs (t:Int) c).length:Int)\/hi<Be r (c:Int);rw [hv];omega
theorem aI(hs:BM rs)(hn:rs.length<=2000)(hok:∀r∈rs,r.ok)(t c:Nat)(ht:t<=3)(hc:c<=3)(lo hi:Int)(hlh:lo<=hi):Dx (ES rs t c lo hi)=(BC rs (t:Int) c).filter (inR (t:Int) c lo hi):=by
 have hcm:=NV hs hn hok t c ht hc lo hi hlh;have h4:=NC hs t c lo hi hlh
 have hf:Bj (BC rs (t:Int) c) c lo=CP (geV c lo) (BC rs (t:Int) c) -1:=rfl;have hto:toT (BC rs (t:Int) c) c hi=min (CP (gtV c hi) (BC rs (t:Int) c)+1) (BC rs (t:Int) c).length:=rfl
 have hv:∀r:AQ,Be r ((c:Nat):Int)=DR r c:=fun r=>Kr r c hc;rw [aH hcm];show(((BC rs (t:Int) c).drop (Bj (BC rs (t:Int) c) c lo)).take (toT (BC rs (t:Int) c) c hi -Bj (BC rs (t:Int) c) c lo)).filter _=_
 have e:BC rs (t:Int) c=(BC rs (t:Int) c).take (Bj (BC rs (t:Int) c) c lo)++(((BC rs (t:Int) c).drop (Bj (BC rs (t:Int) c) c lo)).take (toT (BC rs (t:Int) c) c hi -Bj (BC rs (t:Int) c) c lo)++(BC rs (t:Int) c).drop (toT (BC rs (t:Int) c) c hi)):=by
  have e1:(BC rs (t:Int) c).drop (toT (BC rs (t:Int) c) c hi)=((BC rs (t:Int) c).drop (Bj (BC rs (t:Int) c) c lo)).drop (toT (BC rs (t:Int) c) c hi -Bj (BC rs (t:Int) c) c lo):=by
   rw [AL0];congr 1;omega
  rw [e1,AB4,AB4]
 conv=>rhs;rw [e]
 rw [AB3,AB3];have z1:((BC rs (t:Int) c).take (Bj (BC rs (t:Int) c) c lo)).filter (inR (t:Int) c lo hi)=[]:=by
  rw [AM7];intro r hr h9;obtain ⟨i,hi9⟩:=AA1 hr;rw [AA7]at hi9;split at hi9
  · have:=(fB hs t c lo hi9).2 Ao7
    have:=An1 h9;omega
  · cases hi9
 have z2:((BC rs (t:Int) c).drop (toT (BC rs (t:Int) c) c hi)).filter (inR (t:Int) c lo hi)=[]:=by
  rw [AM7];intro r hr h9;obtain ⟨i,hi9⟩:=AA1 hr;rw [AE1]at hi9;have hlt:=(zF.1 hi9).1
  have:=(fH hs t c hi hi9).1 Ao7;have:=An1 h9
  omega
 rw [z1,z2,AD8,zV];refine AN0 ?_;intro r hr;have hm:=eX (AF2 (AI9 hr))
 unfold inB inR;show decide (lo<=Be r (c:Int)/\Be r (c:Int)<=hi)=_
 rw [hv];exact decide_eq_decide.2 ⟨fun h=>⟨hm.2,h⟩,fun h=>h.2⟩
theorem pJ(hs:BM rs)(hok:∀r∈rs,r.ok)(t c:Nat)(ht:t<=3)(hc:c<=3)(lo hi:Int)(hlh:lo<=hi):(BC rs (t:Int) c).filter (inR (t:Int) c lo hi)=DY rs (t:Int) c lo hi:=by
 refine UO hs ?_ ?_
 · have h1:=(EI rs (t:Int) c (-1000000000) 1000000000).filter (inR (t:Int) c lo hi)
   refine h1.trans ?_;rw [List.filter_filter];refine List.Perm.of_eq (AN0 ?_);intro r hr;obtain ⟨⟨h1,h2,h3⟩,h4,h5⟩:=hok r hr;unfold inV at h1 h2 h3;have hb:-1000000000<=DR r c/\DR r c<=1000000000:=by
    unfold DR;split
    · omega
    · split
      · omega
      · split<;>omega
   unfold inR;rw [<-Bool.decide_and];exact decide_eq_decide.2 ⟨fun h=>h.1,fun h=>⟨h,h.1,hb⟩⟩
 · exact (ER hs (t:Int) c (-1000000000) 1000000000).filter _
theorem RS(hs:BM rs)(hn:rs.length<=2000)(hok:∀r∈rs,r.ok)(t c:Nat)(ht:t<=3)(hc:c<=3)(lo hi:Int)(hlh:lo<=hi):Dx (ES rs t c lo hi)=DY rs (t:Int) c lo hi:=by rw [aI hs hn hok t c ht hc lo hi hlh,pJ hs hok t c ht hc lo hi hlh]
def Mf(c:Int)(n:Nat):Nat:=((if c<0 then-(c+1)else c).tmod n).toNat
theorem XT(c:Int)(n:Nat)(hn:0<n):Mf c n<n:=by
 unfold Mf;have h1:0<=(if c<0 then-(c+1)else c):=by split<;>omega
 have h2:=Int.tmod_lt_of_pos (if c<0 then-(c+1)else c) (b:=(n:Int)) Ao7;have h3:=Int.tmod_nonneg (n:Int) h1
 omega
theorem XU(c:Int)(n:Nat):(if c<0 then-(c+1)else c).tmod n=(Mf c n:Int):=by
 unfold Mf;have h1:0<=(if c<0 then-(c+1)else c):=by split<;>omega
 have h3:=Int.tmod_nonneg (n:Int) h1;omega
theorem sP{c:Chg}{x:AQ}(h:x∈Es rs c):x∈rs\/(c.has=true/\x=⟨c.t,c.k,c.n⟩):=by
 unfold Es at h;rcases zJ.1 h with h|h
 · rcases zJ.1 h with h|h
   · exact .inl (AI9 h)
   · exact .inr (OJ.1 h)
 · exact .inl (AF2 (AF2 h))
theorem uU{c:Chg}(h:c.ok)(hh:c.has=true):AQ.ok ⟨c.t,c.k,c.n⟩:=by
 obtain ⟨_,h2,_⟩:=h;rw [Qm hh]at h2;exact AD7.1 fun h9=>h2 (.inr ⟨hh,h9⟩)
theorem UR:∀(cs:List Chg) (rs:List AQ),(∀r∈rs,r.ok)->(∀c∈cs,c.ok)->∀r∈EC rs cs,r.ok
 |[],rs,h,_=>h
 |c::cs,rs,h,hc=>by
  have h1:∀r∈Es rs c,r.ok:=fun r hr=>by
   rcases sP hr with hr|⟨hh,rfl⟩
   · exact h r hr
   · exact uU (hc c Ap0) hh
  exact UR cs (Es rs c) h1 (fun c hc9=>hc c (by simp [hc9]))
variable{l:List BN}
theorem FL.rowsOk(h:FL l):∀i,i<=l.length->∀r∈Bg (l.take i),r.ok
 |0,_=>by intro r hr;simp [Bg]at hr
 |i+1,hi=>by
  obtain ⟨r,hr⟩:∃r,l[i]?=some r:=⟨_,zD Ao7⟩;rw [Bc hr,GH];refine UR _ _ (FL.rowsOk h i Ao7) fun c hc=>?_;obtain ⟨j,hj⟩:=AA1 hc;exact (h i r hr).1.ok.all j c hj
def cs0:List Chg:=[⟨0,3,false,V3.zero,true,⟨10,0,0⟩⟩,⟨0,5,false,V3.zero,true,⟨10,21,30⟩⟩]
def l0(gc:Nat):List BN:=[⟨1,some ⟨gc,0,none⟩,2,cs0⟩]
def RP.cut(x:RP):RP:=⟨x.tb,x.cl,x.lo,x.hi,x.ct,x.fi,x.rows.drop 1,x.paths.drop 1,x.roots⟩
variable{M:List A8}{v:Value}{x:RP}
theorem wH(hv:WY M v x)(h:G9 x){l:List AQ}(hl:Dx x=l):BR Tryz.prog 218 #[v] [M] (fun r H'=>∃vr sr,r= .tuple #[vr,.bool true]/\BZ 5 83 vr l.length (Ac l) sr/\H'=[sr,M]):=by
 have h1:=gW hv;rw [Am8 h,hl]at h1;exact h1
variable{M':List A8}
theorem WY.mono(h:WY M v x)(hm:∀c∈M,c∈M'):WY M' v x:=by
 obtain ⟨vr,vp,vt,e,h1,h2,h3⟩:=h;exact ⟨vr,vp,vt,e,h1.mono hm,h2.mono hm,h3.mono hm⟩
theorem Rf:∀(n:Nat) (l:List Bs) (i:Nat),l.length<=n->(Ex l i).length<=l.length
 |n,l,i,hn=>by
  rcases AB1 l.length 2 with h|h
  · rw [UU Ao7];simp
  · have h1:=OQ h
    have h2:=OP l.length
    match n,hn with
    |0,hn=>omega
    |n+1,hn=>
    by_cases hi:i<DF l.length
    · have ih:=Rf n (l.take (DF l.length)) i (by rw [zN];omega)
      rw [zN]at ih;rw [Q3 h hi,zG];simp only [zU];omega
    · have ih:=Rf n (l.drop (DF l.length)) (i -DF l.length) (by rw [zO];omega)
      rw [zO]at ih;rw [OB h hi,zG];simp only [zU];omega
theorem XR(hs:BM rs)(hn:rs.length<=2000)(t c:Nat)(lo hi:Int):∀l∈(ES rs t c lo hi).paths,l.length<=1000000:=by
 intro l h;obtain ⟨x,_,rfl⟩:=zQ.1 h;have h1:=Rf _ (NS (BC rs (t:Int) c)) (Bj (BC rs (t:Int) c) c lo+x) (zh _)
 have h2:=Iu hs (t:Int) c;rw [Fu]at h1;omega
theorem w9(q:QM)(hq:BH q):BJ Tryz.prog 178 #[.agg #[I4 q.kd,I4 q.tb,I4 q.cl,I4 q.lo,I4 q.hi,I4 q.bq,I4 q.ot]] [] (.tuple #[I4 q.tb,I4 q.cl,I4 q.lo,I4 q.hi]):=by
 refine Se func178 ntmps178 [0] ?_;intro u R;refine Zq<|Zg<|Ze (Bx #[I4 q.kd,I4 q.tb,I4 q.cl,I4 q.lo,I4 q.hi,I4 q.bq,I4 q.ot]) ?_;rintro _ _ ⟨bq,rfl,rfl⟩;refine Za Y<|Za Y<|Za Y<|Za Y<|Z0<|Zx<|Zq<|Zq<|Zg<|Zo Wh (AA (cs:=#[_,_,_,_,_,_,_]) AX9 AV8 Y (by(simp;done)) Ap1) ?_;refine Xr [_] Y call34 Y V (JJ q) ?_;refine Zv (Eg Y)<|Z0<|Zx<|AR Y (fun hb1=>?_) (fun hb1=>?_)
 ·
  exfalso;simp [hq]at hb1
 refine AJ<|Zx<|Zq<|Az (n:=12) (0::1::0::4::0::16::0::64::3::271::831::2047::[]) 0 Ao8 Ao8 V<|An9 0 V (AB (off:=1) AU9 V rfl AU1 Y)<|Ao0 1 V AU2 Y ?_;refine An9 2 V (AB (off:=2) AU9 V rfl AU1 Y)<|Ao0 3 V AU2 Y ?_;refine An9 4 V (AB (off:=3) AU9 V rfl AU1 Y)<|Ao0 5 V AU2 Y ?_;refine An9 6 V (AB (off:=4) AU9 V rfl AU1 Y)<|Ao0 7 V AU2 Y ?_;refine An9 8 V (Aq Y)<|An9 9 V (Aq Y)<|An9 10 V (Aq Y)<|An9 11 V (Aq Y)<|Ag<|Zn [2,3,4,5] ?_;refine Zx<|AC<|eY V results178 Y Y Y Y (by exact ⟨V,V⟩)
theorem xY(q:QM)(hq:BH q):BJ Tryz.prog 104 #[.agg #[I4 q.kd,I4 q.tb,I4 q.cl,I4 q.lo,I4 q.hi,I4 q.bq,I4 q.ot]] [] (.agg #[I4 q.tb,I4 q.cl,I4 q.lo,I4 q.hi]):=by
 refine Se func104 ntmps104 [0] ?_;intro u R;refine Zq<|Zg<|Ze (Bx #[I4 q.kd,I4 q.tb,I4 q.cl,I4 q.lo,I4 q.hi,I4 q.bq,I4 q.ot]) ?_;rintro _ _ ⟨bq,rfl,rfl⟩;refine Ze (Al Ai6 #[_,_,_,_]) ?_;rintro _ _ ⟨bo,rfl,rfl⟩;refine Z0<|Zx<|Zq<|Zg<|Zo Wh (AA (cs:=#[_,_,_,_,_,_,_]) AX9 AV8 Y (by(simp;done)) Ap1) ?_;refine Xr [_] Y call178 Y V (w9 q hq) ?_;refine Zm Y<|Zd Y V<|Zd Y V<|Zd Y V<|Zd Y V<|Zh 0 AZ1 V rfl AU1 Y<|Xe (Zs AU1 Y Y V (hi:=by decide)) ?_;refine Zh 1 AZ1 V rfl AU1 Y<|Xe (Zs AU1 Y Y V (hi:=by(simp;done))) ?_;refine Zh 2 AZ1 V rfl AU1 Y<|Xe (Zs AU1 Y Y V (hi:=by(simp;done))) ?_;refine Zh 3 AZ1 V rfl AU1 Y<|Xe (Zs AU1 Y Y V (hi:=by(simp;done))) ?_;refine Z0<|Zn [2] ?_;refine Zx<|Zq<|Zg<|Zo Wh (AA (cs:=#[_,_,_,_]) isAgg202 Ai2 Y (by(simp;done)) (by exact BD V)) ?_;refine Xe (BK Ai2 Y Y Ap9 Wu (by exact Dr rfl) Ap3 (by(simp;done)) (by exact BF _)) ?_;refine Z0<|Zx<|AC<|Cy V results104 Y Wh (Ap isAgg202 Ai2 Wn (BD V)) (by exact ⟨V,V⟩)
theorem Td{P:Program}{env:Env}{d:Option Nat}{ty:TypeId}{pos:String}{af:Array Edge}{g:Option (Nat×Bool)}{x:Operand}{xT at_:TypeId}{ok:Bool}{r:Value}(hx:∀a,ev a env x=v)(hr:∀w:World,(Instr.typeAssert v xT at_ ok).run P w= .ok r w):OpP P ⟨d,.typeAssert x xT at_ ok,ty,pos,af,g⟩ env [] r:=fun a w _=>by
 simp [execOp,hx a,hr w]
theorem wQ(w:World):(Instr.typeAssert .nilIface 20 101 true).run Tryz.prog w= .ok (.tuple #[.nilIface,.bool false]) w:=by kernel_rfl
theorem YF{u w:World}{H:Hp}{b:Nat}{o:Obj}(h:Has b o H)(hs:Sat u H w):w.heap[b]?=some o:=hs.get _ h.mem
variable{q:QM}
theorem jc(hq:BH q)(h7:q.kd≠7):I7 q (DY rs q.tb q.cl.toNat q.lo q.hi) []=Cc rs q:=by
 rw [OW hq];unfold Cc F8 CF;split
 · rfl
 · split
   · rfl
   · split
     · rfl
     · split
       · rfl
       · first
         |rfl
         |(split
           · rename_i h;exact absurd h h7
           · rfl)
theorem wF(hs:BM rs)(hn:rs.length<=2000)(hok:∀r∈rs,r.ok)(q:QM)(hq:BH q):G9 (ES rs q.tb.toNat q.cl.toNat q.lo q.hi)/\Dx (ES rs q.tb.toNat q.cl.toNat q.lo q.hi)=DY rs q.tb q.cl.toNat q.lo q.hi:=by
 obtain ⟨h1,h2,h3,_⟩:=id hq;refine ⟨NV hs hn hok q.tb.toNat q.cl.toNat Ao7 Ao7 q.lo q.hi h3.2.1,?_⟩;have h:=RS hs hn hok q.tb.toNat q.cl.toNat Ao7 Ao7 q.lo q.hi h3.2.1
 rwa [show((q.tb.toNat:Nat):Int)=q.tb by omega]at h
theorem mV(hq:BH q):(ES rs q.tb.toNat q.cl.toNat q.lo q.hi).tb=q.tb/\(ES rs q.tb.toNat q.cl.toNat q.lo q.hi).cl=q.cl/\(ES rs q.tb.toNat q.cl.toNat q.lo q.hi).lo=q.lo/\(ES rs q.tb.toNat q.cl.toNat q.lo q.hi).hi=q.hi:=by
 obtain ⟨h1,h2,_⟩:=id hq;exact ⟨show((q.tb.toNat:Nat):Int)=q.tb by omega,show((q.cl.toNat:Nat):Int)=q.cl by omega,V,V⟩
theorem Jy:BJ Tryz.prog 159 #[.bool true] [] undef:=by
 refine Se func159 ntmps159 [0] ?_;intro u R;refine Zq<|Zg<|Zm Y<|Zv (Br Y)<|Z0<|Zx<|AR Y (fun hb=>?_) (fun hb=>?_)
 ·
  cases hb
 refine AJ<|Cj V results159 (by exact ⟨V,V⟩)
theorem uW(pk:Value):Oj Tryz.prog 158 #[pk] .returning .returning [] (fun H'=>H'=[]):=by
 refine X7 (env1:=[(3,.bool false),(2,.nilIface),(8,.bool false),(7,.nilIface),(4,.tuple #[.nilIface,.bool false]),(6,.tuple #[.nilIface,.bool false]),(5,.nilIface),(0,pk)]) func158 V ntmps158 V results158 ?hrec_1 ?hwalk_1
 case hrec_1=>
  intro u R c cs Q hm hk;show kX _ _ [0,1,2,3,4,5,6] _ _ _ _ _
  have hcm:({c with mode:= .returning}:Frame)=c:=by cases c;simp only at hm;subst hm;rfl
  rw [hcm]at hk;refine bC V (by simp [recoverD,hm]) V ?_;refine PY V (Td Y wQ) V ?_;refine PY V (AP Y) V ?_;refine PY V (Bt Y V) V ?_;refine PY V (Bt Y V) V ?_;refine PY V (Aq Y) V ?_;refine PY V (Aq Y) V ?_;intro a w hs;exact hk a w hs
 intro u R;refine Zb [0,2,3] ?_;refine Zq<|Zg<|Zm Y<|Zm Y<|Aj (t:=10) Y V (fun hb=>?_) (fun hb=>?_)
 ·
  cases hb
 refine A7 Y V<|A7 Y V<|A7 Y V<|Zv (AU Y Y)<|Z0<|Zx<|Dv Y<|AJ<|Cj V results158 Ap1
theorem vZ(bk:Nat)(po:Value):Oj Tryz.prog 157 #[I5 bk,po] .returning .returning [[(bk,.cells #[.bool true] 4 (0,0))]] (fun H'=>H'=[[(bk,.cells #[.bool true] 4 (0,0))]]):=by
 refine Yh func157 V ntmps157 V ?_;intro u R;refine Zb [0,1] ?_;refine Zq<|Zg<|Zl Ab8 Y ?_;refine Zv (Br Y)<|Z0<|Zx<|AR Y (fun hb=>?_) (fun hb=>?_)
 ·
  cases hb
 refine AJ<|Cj V results157 Ap1
structure RPZ where
 x:RP
 qr:Option Addr
 cr:Nat
 qp:Option Addr
 cp:Nat
 qt:Option Addr
 ct:Nat
def EN(z:RPZ):List Value:=[I4 z.x.tb,I4 z.x.cl,I4 z.x.lo,I4 z.x.hi,I4 z.x.ct,I4 z.x.fi,.slice z.qr z.x.rows.length z.cr,.slice z.qp z.x.paths.length z.cp,.slice z.qt z.x.roots.length z.ct]
def RPZ.ok(M:List A8)(z:RPZ):Prop:=Dh M (.slice z.qr z.x.rows.length z.cr) z.x.rows/\Li M (.slice z.qp z.x.paths.length z.cp) z.x.paths/\E9 M (.slice z.qt z.x.roots.length z.ct) z.x.roots
theorem wE(h:WY M v x):∃z:RPZ,z.x=x/\z.ok M/\v= .agg #[I4 z.x.tb,I4 z.x.cl,I4 z.x.lo,I4 z.x.hi,I4 z.x.ct,I4 z.x.fi,.slice z.qr z.x.rows.length z.cr,.slice z.qp z.x.paths.length z.cp,.slice z.qt z.x.roots.length z.ct]:=by
 obtain ⟨vr,vp,vt,rfl,h1,h2,h3⟩:=h;obtain ⟨qr,cr,rfl,h4⟩:=id h1;obtain ⟨qp,cp,rfl,h5⟩:=id h2;obtain ⟨qt,ct,rfl,h6⟩:=id h3;exact ⟨⟨x,qr,cr,qp,cp,qt,ct⟩,V,⟨h1,h2,h3⟩,V⟩
theorem RPZ.ok.mono{z:RPZ}(h:z.ok M)(hm:∀c∈M,c∈M'):z.ok M':=⟨h.1.mono hm,h.2.1.mono hm,h.2.2.mono hm⟩
theorem RPZ.ok.rp{z:RPZ}(h:z.ok M):WY M (.agg #[I4 z.x.tb,I4 z.x.cl,I4 z.x.lo,I4 z.x.hi,I4 z.x.ct,I4 z.x.fi,.slice z.qr z.x.rows.length z.cr,.slice z.qp z.x.paths.length z.cp,.slice z.qt z.x.roots.length z.ct]) z.x:=⟨_,_,_,rfl,h⟩
def ZsU(M:List A8)(v:Value)(Z:List RPZ):Prop:=∃p cap,v= .slice p Z.length cap/\(Z.length<=maxLen/\Z.length<=cap)/\∀(i:Nat) (z:RPZ),Z[i]?=some z->z.ok M/\∃g off cur T zz,p=some ⟨g,off,none⟩/\(g,Obj.cells cur T zz)∈M/\off+i*9+9<=cur.size/\cur.extract (off+i*9) (off+i*9+9)=#[I4 z.x.tb,I4 z.x.cl,I4 z.x.lo,I4 z.x.hi,I4 z.x.ct,I4 z.x.fi,.slice z.qr z.x.rows.length z.cr,.slice z.qp z.x.paths.length z.cp,.slice z.qt z.x.roots.length z.ct]
def Fg(M:List A8)(v:Value)(L:List RP):Prop:=∃Z,ZsU M v Z/\Z.map RPZ.x=L
variable{Z:List RPZ}
theorem ZsU.mono(h:ZsU M v Z)(hm:∀c∈M,c∈M'):ZsU M' v Z:=by
 obtain ⟨p,cap,e,hl,hg⟩:=h;refine ⟨p,cap,e,hl,fun i z hz=>?_⟩;obtain ⟨h2,g,off,cur,T,zz,h3,h4,h5⟩:=hg i z hz;exact ⟨h2.mono hm,g,off,cur,T,zz,h3,hm _ h4,h5⟩
variable{L:List RP}
theorem Fg.mono(h:Fg M v L)(hm:∀c∈M,c∈M'):Fg M' v L:=by
 obtain ⟨Z,h1,h2⟩:=h;exact ⟨Z,h1.mono hm,h2⟩
variable{s:List A8}
theorem VD{MM:List A8}(h:BZ 9 152 v Z.length (Z.flatMap EN) s)(hn:Z.length<=maxLen)(hM:∀z∈Z,z.ok MM):ZsU (s++MM) v Z:=by
 obtain ⟨b,cap,rfl⟩:=h.form;refine ⟨b,cap,V,⟨hn,Ew h⟩,fun i z hz=>⟨(hM z (zP hz)).mono (fun c hc=>zZ _ hc),?_⟩⟩;obtain ⟨g,cap',cur,zz,hv,rfl,hsz,hex⟩:=L8 h i (zF.1 hz).1;injection hv with hv1 hv2 hv3
 refine ⟨g,0,cur,152,zz,hv1,zR _ (zI.2 V),by omega,?_⟩;rw [zo];apply AB8.1;rw [hex];exact KP _ 9 (fun _=>rfl) Z i z hz
theorem lZ{MM:List A8}(h:BZ 9 152 v Z.length (Z.flatMap EN) s)(hn:Z.length<=maxLen)(hM:∀z∈Z,z.ok MM):Fg (s++MM) v (Z.map RPZ.x):=⟨Z,VD h hn hM,rfl⟩
theorem Fg.form(h:Fg M v L):∃p cap,v= .slice p L.length cap/\L.length<=maxLen/\L.length<=cap:=by
 obtain ⟨Z,⟨p,cap,e,hl,_⟩,rfl⟩:=h;rw [zH];exact ⟨p,cap,e,hl⟩
theorem Fg.at{M:List A8}{p:Option Addr}{n cap:Nat}{L:List RP}(h:Fg M (.slice p n cap) L){i:Nat}{x:RP}(hx:L[i]?=some x):∃z:RPZ,z.x=x/\z.ok M/\∃g off cur T zz,p=some ⟨g,off,none⟩/\(g,Obj.cells cur T zz)∈M/\off+i*9+9<=cur.size/\cur.extract (off+i*9) (off+i*9+9)=#[I4 z.x.tb,I4 z.x.cl,I4 z.x.lo,I4 z.x.hi,I4 z.x.ct,I4 z.x.fi,.slice z.qr z.x.rows.length z.cr,.slice z.qp z.x.paths.length z.cp,.slice z.qt z.x.roots.length z.ct]:=by
 obtain ⟨Z,⟨p',cap',e,_,hg⟩,rfl⟩:=h;injection e with e1 e2 e3
 subst e1;rw [zY]at hx;cases hz:Z[i]?with
 |none=>rw [hz]at hx;cases hx
 |some z=>
  rw [hz]at hx;injection hx with hx
  exact ⟨z,hx,hg i z hz⟩
variable{p:Option Addr}{cap n:Nat}
theorem Fg.tail(h:Fg M (.slice p n cap) (x::L)):Fg M (.slice (En p 1 cap 9) (n -1) (cap -1)) L:=by
 obtain ⟨Z,⟨p',cap',e,⟨hl,hlc⟩,hg⟩,hZ⟩:=h;injection e with e1 e2 e3
 subst e1 e2 e3
 match Z,hZ,hl,hlc,hg with
 |z::Z,hZ,hl,hlc,hg=>
  injection hZ with hZ1 hZ2
  rw [ze]at hl hlc;refine ⟨Z,⟨_,_,by rw [ze,AG2],⟨by omega,by omega⟩,fun i y hy=>?_⟩,hZ2⟩;obtain ⟨h2,g,off,cur,T,zz,rfl,h4,h5,h6⟩:=hg (i+1) y (by simpa using hy);have hi:=(zF.1 hy).1
  refine ⟨h2,g,off+1*9,cur,T,zz,?_,h4,by omega,by rw [show off+1*9+i*9=off+(i+1)*9 by omega];exact h6⟩;unfold En;rw [Am6 Ao7,AG6,Cn]
def Vg(q:QM)(r:AQ):Int×Int×Int×Int:=(q.ot,0,Be r q.bq,Be r q.bq)
def XA(q:QM):Int×Int×Int×Int:=(q.tb,q.cl,q.lo,q.hi)
def RP.scan(x:RP):Int×Int×Int×Int:=(x.tb,x.cl,x.lo,x.hi)
noncomputable def OA(s:Int×Int×Int×Int):List RP->Option (List AQ×List RP)
 |[]=>none
 |x::l=>if x.scan=s/\G9 x then some (Dx x,l)else none
noncomputable def EQ(q:QM):List AQ->List RP->Option (List AQ×List RP)
 |[],l=>some ([],l)
 |r::rs,l=>(OA (Vg q r) l).bind fun a=>(EQ q rs a.2).map fun b=>(a.1++b.1,b.2)
noncomputable def ED(q:QM)(L:List RP):Option Bw:=
 if BH q then(OA (XA q) L).bind fun a=>if a.1.length<=100 then(if q.kd=7 then EQ q a.1 a.2 else some ([],a.2)).bind fun b=>if b.2=[]then some (F8 q a.1 b.1)else none else none else none
theorem RZ{s:Int×Int×Int×Int}{a:List AQ×List RP}(h:OA s L=some a):∃x,L=x::a.2/\x.scan=s/\G9 x/\a.1=Dx x:=by
 unfold OA at h;split at h
 · cases h
 · split at h
   · rename_i x l h9
     injection h with h
     subst h;exact ⟨x,V,h9.1,h9.2,V⟩
   · cases h
theorem UL{s:Int×Int×Int×Int}{l:List RP}(h1:x.scan=s)(h2:G9 x):OA s (x::l)=some (Dx x,l):=Am7 ⟨h1,h2⟩
theorem LH{r:AQ}{l:List RP}{b:List AQ×List RP}(h:EQ q (r::rs) l=some b):∃a c,OA (Vg q r) l=some a/\EQ q rs a.2=some c/\b=(a.1++c.1,c.2):=by
 unfold EQ at h;cases ha:OA (Vg q r) l with
 |none=>rw [ha]at h;cases h
 |some a=>
  rw [ha,AC4]at h;cases hc:EQ q rs a.2 with
  |none=>rw [hc]at h;cases h
  |some c=>rw [hc]at h;injection h with h;exact ⟨a,c,rfl,hc,h.symm⟩
theorem O9{q:QM}:∀(rows:List AQ) (i:Nat) (L:List RP) (b:List AQ×List RP),i<=rows.length->EQ q rows L=some b->∃o l',EQ q (rows.take i) L=some (o,l')/\∃o2,EQ q (rows.drop i) l'=some (o2,b.2)/\b.1=o++o2
 |rows,0,L,b,_,h=>⟨[],L,rfl,b.1,by rw [AI5];exact h,rfl⟩
 |r::rows,i+1,L,b,hi,h=>by
  obtain ⟨a,c,h1,h2,rfl⟩:=LH h;obtain ⟨o,l',h3,o2,h4,h5⟩:=O9 rows i a.2 c (by simpa using hi) h2;refine ⟨a.1++o,l',?_,o2,by rw [List.drop_succ_cons];exact h4,by rw [h5,zM]⟩;rw [AN9];unfold EQ;rw [h1,AC4,h3];rfl
theorem Pz{q:QM}:∀(rows:List AQ) (i:Nat) (r:AQ) (L l':List RP) (o:List AQ) (a:List AQ×List RP),rows[i]?=some r->EQ q (rows.take i) L=some (o,l')->OA (Vg q r) l'=some a->EQ q (rows.take (i+1)) L=some (o++a.1,a.2)
 |r9::rows,0,r,L,l',o,a,hr,h,ha=>by
  injection hr with hr
  subst hr;injection h with h
  injection h with h1 h2
  subst h1 h2;show EQ q [r9] L=_
  unfold EQ;rw [ha,AC4];show some (a.1++[],a.2)=some ([]++a.1,a.2)
  rw [zV,AD8]
 |r9::rows,i+1,r,L,l',o,a,hr,h,ha=>by
  rw [AN9]at h⊢;obtain ⟨a9,c9,h1,h2,h3⟩:=LH h;injection h3 with h3 h4
  have:=Pz rows i r a9.2 c9.2 c9.1 a (by simpa using hr) h2 (by rw [<-h4];exact ha);unfold EQ;rw [h1,AC4,this,h3,zM];rfl
variable{r:Bw}
theorem Pq(h:ED q L=some r):∃x L2,L=x::L2/\BH q/\x.scan=XA q/\G9 x/\(Dx x).length<=100/\((q.kd≠7/\L2=[]/\r=F8 q (Dx x) [])\/(q.kd=7/\∃o,EQ q (Dx x) L2=some (o,[])/\r=F8 q (Dx x) o)):=by
 unfold ED at h;split at h
 · rename_i hq
   cases ha:OA (XA q) L with
   |none=>rw [ha]at h;cases h
   |some a=>
    obtain ⟨x,h1,h2,h3,h4⟩:=RZ ha;rw [ha,AC4]at h;split at h
    · rename_i h5
      rw [h4]at h5 h;refine ⟨x,a.2,h1,hq,h2,h3,h5,?_⟩;split at h
      · rename_i h7
        cases hb:EQ q (Dx x) a.2 with
        |none=>rw [hb]at h;cases h
        |some b=>
         rw [hb,AC4]at h;split at h
         · rename_i h8
           injection h with h
           exact .inr ⟨h7,b.1,by rw [<-h8],h.symm⟩
         · cases h
      · rename_i h7
        rw [AC4]at h;split at h
        · rename_i h8
          injection h with h
          exact .inl ⟨h7,h8,h.symm⟩
        · cases h
    · cases h
 · cases h
def FQ(rs:List AQ)(q:QM):List RP:=ES rs q.tb.toNat q.cl.toNat q.lo q.hi::(if q.kd=7 then(CF rs q).map fun r=>ES rs q.ot.toNat 0 (Be r q.bq) (Be r q.bq)else [])
theorem RY{rs:List AQ}(hs:BM rs)(hn:rs.length<=2000)(hok:∀r∈rs,r.ok){q:QM}(ho:0<=q.ot/\q.ot<=3):∀l:List AQ,EQ q l (l.map fun r=>ES rs q.ot.toNat 0 (Be r q.bq) (Be r q.bq))=some (l.flatMap fun r=>DY rs q.ot 0 (Be r q.bq) (Be r q.bq),[])
 |[]=>rfl
 |r::l=>by
  have e:((q.ot.toNat:Nat):Int)=q.ot:=by omega
  have h1:=NV hs hn hok q.ot.toNat 0 Ao7 Ao7 (Be r q.bq) (Be r q.bq) (AM6 _);have h2:=RS hs hn hok q.ot.toNat 0 Ao7 Ao7 (Be r q.bq) (Be r q.bq) (AM6 _)
  have h3:=RY hs hn hok ho l;rw [e]at h2;unfold EQ;rw [zx,UL (by show(((q.ot.toNat:Nat):Int),((0:Nat):Int),_,_)=(_,_,_,_);rw [e];rfl) h1,AC4];simp only [h3,h2,AG6,AB2]
theorem jg{f:AQ->Bool}{g:AQ->List AQ}{y:AQ}(hf:∀a b,f a=true->f b=true->(∃r,a∈g r)->(∃r,b∈g r)->a=b):∀l:List AQ,(∃r∈l,y∈g r)->f y=true->(l.flatMap g).find? f=some y:=fun l ⟨r,hr,hy⟩ h=>by
 cases hfi:(l.flatMap g).find? f with
 |none=>exact absurd h (by simpa using AO9.1 hfi y (AF8.2 ⟨r,hr,hy⟩))
 |some x=>
  have h1:=AR2 (p:=f) hfi;obtain ⟨r',_,hx⟩:=AF8.1 (AL2 hfi);rw [hf x y h1 h ⟨r',hx⟩ ⟨r,hy⟩]
theorem ZW(hs:BM rs)(hn:rs.length<=2000)(hok:∀r∈rs,r.ok)(hq:BH q)(hl:(CF rs q).length<=100):ED q (FQ rs q)=some (Cc rs q):=by
 have hk:=hq.2.2.2;have hc:=hq.2.1
 have ht:=hq.1;obtain ⟨h1,h2⟩:=wF hs hn hok q hq;have h3:=mV (rs:=rs) hq
 have hsc:(ES rs q.tb.toNat q.cl.toNat q.lo q.hi).scan=XA q:=by unfold RP.scan XA;rw [h3.1,h3.2.1,h3.2.2.1,h3.2.2.2]
 unfold ED FQ;rw [Am7 hq,UL hsc h1,AC4];simp only [h2];rw [show DY rs q.tb q.cl.toNat q.lo q.hi=CF rs q from rfl,Am7 hl];by_cases h7:q.kd=7
 · rw [Am7 h7,Am7 h7,RY hs hn hok Ao7,AC4,Am7 rfl]
   unfold Cc F8;simp only [Am6 (show¬q.kd=3 by omega),Am6 (show¬q.kd=4 by omega),Am6 (show¬q.kd=5 by omega),Am6 (show¬q.kd=6 by omega),Am7 h7];congr 2;unfold IL;have hin:∀k x,x∈DY rs q.ot 0 k k↔x∈rs/\x.t=q.ot/\x.k=k:=fun k x=>by
    rw [(EI rs q.ot 0 k k).mem_iff,AA2];unfold inR DR;rw [Am9,Am7 rfl];constructor
    · rintro ⟨a,b,c,d⟩;exact ⟨a,b,by omega⟩
    · rintro ⟨a,b,c⟩;exact ⟨a,b,by omega,by omega⟩
   have hpq:∀r∈CF rs q,IK q ((CF rs q).flatMap fun r=>DY rs q.ot 0 (Be r q.bq) (Be r q.bq)) r=IK q (Ht rs q.ot) r:=fun r hr=>by
    unfold IK
    suffices e:DJ q ((CF rs q).flatMap fun r=>DY rs q.ot 0 (Be r q.bq) (Be r q.bq)) (Be r q.bq)=DJ q (Ht rs q.ot) (Be r q.bq) by rw [e]
    cases hp:DJ q (Ht rs q.ot) (Be r q.bq)with
    |none=>
     unfold DJ;refine AO9.2 fun x hx h9=>?_;obtain ⟨r',_,hx⟩:=AF8.1 hx;have h10:=(hin _ x).1 hx
     have h11:x.t=q.ot/\x.k=Be r q.bq:=by simpa using h9
     have:=(FP hs (q:=q) (Be r q.bq) x).2 ⟨h10.1,h11⟩;rw [hp]at this;cases this
    |some x=>
     have h9:=(FP hs (q:=q) (Be r q.bq) x).1 hp;unfold DJ;refine jg (fun a b ha hb ⟨r1,h1⟩ ⟨r2,h2⟩=>?_) _ ⟨r,hr,(hin _ x).2 ⟨h9.1,h9.2⟩⟩ (Am8 h9.2);have a1:=(hin _ a).1 h1
     have b1:=(hin _ b).1 h2;have a2:a.t=q.ot/\a.k=Be r q.bq:=by simpa using ha
     have b2:b.t=q.ot/\b.k=Be r q.bq:=by simpa using hb
     have a3:=(FP hs (q:=q) (Be r q.bq) a).2 ⟨a1.1,a2⟩;have b3:=(FP hs (q:=q) (Be r q.bq) b).2 ⟨b1.1,b2⟩
     rw [a3]at b3;injection b3
   have:∀l:List AQ,(∀r∈l,IK q ((CF rs q).flatMap fun r=>DY rs q.ot 0 (Be r q.bq) (Be r q.bq)) r=IK q (Ht rs q.ot) r)->l.flatMap (IK q ((CF rs q).flatMap fun r=>DY rs q.ot 0 (Be r q.bq) (Be r q.bq)))=l.flatMap (IK q (Ht rs q.ot)):=fun l=>by
    induction l with
    |nil=>intro _;rfl
    |cons r l ih=>intro h;rw [AB2,AB2,h r Ap0,ih fun x hx=>h x (by simp [hx])]
   exact this _ hpq
 · rw [Am6 h7,Am6 h7,AC4,Am7 rfl]
   rw [<-jc hq h7,OW hq];rfl
theorem sS(v:Value)(p:Int)(rs:List AQ)(s:List A8)(hv:Qa v p rs s)(hs:BM rs)(hn:rs.length<=2000)(hok:∀r∈rs,r.ok)(t c lo hi:Int)(ht:0<=t/\t<=3)(hc:0<=c/\c<=3)(hlh:lo<=hi)(Tg:TypeId)(zg:Nat×Nat):
 BR Tryz.prog 103 #[v,I4 t,I4 c,I4 lo,I4 hi] [[(4,.cells (EW.map Ch).toArray Tg zg)],s] (fun r H'=>∃(z:RPZ) (mem:List A8),z.x=ES rs t.toNat c.toNat lo hi/\z.ok mem/\r= .tuple #[.agg #[I4 z.x.tb,I4 z.x.cl,I4 z.x.lo,I4 z.x.hi,I4 z.x.ct,I4 z.x.fi,.slice z.qr z.x.rows.length z.cr,.slice z.qp z.x.paths.length z.cp,.slice z.qt z.x.roots.length z.ct],I4 0]/\H'=[mem,[(4,.cells (EW.map Ch).toArray Tg zg)],s]):=by
 have h:=aR v p rs s hv hs hn hok t.toNat c.toNat Ao7 Ao7 lo hi hlh Tg zg;rw [show((t.toNat:Nat):Int)=t by omega,show((c.toNat:Nat):Int)=c by omega]at h;refine h.mono ?_;rintro r H' ⟨v',mem,rfl,hR,rfl⟩;obtain ⟨z,h1,h2,rfl⟩:=wE hR;exact ⟨z,mem,h1,h2,V,V⟩
theorem ut(Z:List RPZ):∀u∈Z.flatMap EN,u.oneCell'=true:=by
 intro u hu;obtain ⟨z,_,h⟩:=AF8.1 hu;unfold EN at h;simp only [za,AH2,An6]at h;rcases h with rfl|rfl|rfl|rfl|rfl|rfl|rfl|rfl|rfl<;>rfl
theorem xA(Z:List RPZ):(Z.flatMap EN).length=Z.length*9:=by
 induction Z with
 |nil=>rfl
 |cons z Z ih=>rw [AB2,zG,ih,ze];show 9+_=_;omega
theorem Ro(q:QM)(hb:0<=q.bq/\q.bq<=3)(r:AQ):BJ Tryz.prog 106 #[.agg #[I4 q.kd,I4 q.tb,I4 q.cl,I4 q.lo,I4 q.hi,I4 q.bq,I4 q.ot],.agg #[I4 r.t,I4 r.k,I4 r.v.a,I4 r.v.b,I4 r.v.c]] [] (.agg #[I4 q.ot,I4 0,I4 (Be r q.bq),I4 (Be r q.bq)]):=by
 refine Se func106 ntmps106 [0,1] ?_;intro u R;refine Zq<|Zg<|Ze (Bx #[I4 q.kd,I4 q.tb,I4 q.cl,I4 q.lo,I4 q.hi,I4 q.bq,I4 q.ot]) ?_;rintro _ _ ⟨bq,rfl,rfl⟩;refine Ze (Bx #[_,_,_,_,_]) ?_;rintro _ _ ⟨br,rfl,rfl⟩;refine Ze (Al Ai6 #[_,_,_,_]) ?_;rintro _ _ ⟨bo,rfl,rfl⟩;refine Z0<|Zx<|Zq<|Zg<|Zo Wh (AA (cs:=#[_,_,_,_,_]) AX3 AU5 Y (by(simp;done)) (by exact BD V)) ?_;refine Zh 5 AU9 V rfl AU1 Y<|Zl AU2 Y ?_;refine Xr [_,_] Y Ah3 Y V (FW r q.bq hb) ?_;refine Za Y<|Z0<|Zx<|Zq<|Zg<|Zh 6 AU9 V rfl AU1 Y<|Zl AU2 Y ?_;refine Zm Y<|Zm Y<|Zv (BL (vs:=[(0,_),(1,_),(2,_),(3,_)]) (cs:=#[_,_,_,_]) Y (AY (pl:=#[(0,1),(1,1),(2,1),(3,1)]) Ai6 AZ1 (fun _=>by kernel_rfl) rfl))<|Xe (BK Ai2 Y Y (by(simp [Value.oneCell',Value.cells];done)) Wu (by exact Dr rfl) Ap3 Ao9 (by exact BF _)) ?_;refine Z0<|Zn [4] ?_;refine Zx<|AC<|Cy V results106 Y Wh (Ap isAgg202 Ai2 Wn (BD V)) (by exact ⟨V,V⟩)
theorem vE(v:Value)(p:Int)(rs:List AQ)(s:List A8)(hv:Qa v p rs s)(hs:BM rs)(hn:rs.length<=2000)(hok:∀r∈rs,r.ok)(t c0 lo hi:Int)(ht:0<=t/\t<=3)(hc:0<=c0/\c0<=3)(hlh:lo<=hi)(Tg:TypeId)(zg:Nat×Nat)(bs bo:Nat){g:Option Addr}{so:List A8}(hso:BZ 9 152 (.slice g Z.length c) Z.length (Z.flatMap EN) so)(hZ:Z.length<=1000000):BR Tryz.prog 102 #[.agg #[I4 t,I4 c0,I4 lo,I4 hi],I5 bs,I5 bo] [[(4,.cells (EW.map Ch).toArray Tg zg)],s,[(bs,.cells #[v] 131 (0,0))],[(bo,.cells #[.slice g Z.length c] 41 (0,0))],so] (fun r H'=>r=undef/\∃(z:RPZ) (mem:List A8) (g:Option Addr) (c:Nat) (so:List A8),z.x=ES rs t.toNat c0.toNat lo hi/\z.ok mem/\BZ 9 152 (.slice g (Z.length+1) c) (Z.length+1) ((Z++[z]).flatMap EN) so/\H'=[mem,so,[(4,.cells (EW.map Ch).toArray Tg zg)],s,[(bs,.cells #[v] 131 (0,0))],[(bo,.cells #[.slice g (Z.length+1) c] 41 (0,0))]]):=by
 have hml:=mL;obtain ⟨sp,mb,es,ck,lm,rfl,hst9⟩:=id hv;refine Se func102 ntmps102 [0,1,2] ?_;intro u R;refine Zq<|Zg<|Ze (Bx #[_,_,_,_]) ?_;rintro _ _ ⟨bx,rfl,rfl⟩;refine Z0<|Zx<|Zq<|Zg<|Zl isAgg131 Y ?_;refine Zh 0 AZ1 V rfl AU1 Y<|Zl AU2 Y ?_;refine Zh 1 AZ1 V rfl AU1 Y<|Zl AU2 Y ?_;refine Zh 2 AZ1 V rfl AU1 Y<|Zl AU2 Y ?_;refine Zh 3 AZ1 V rfl AU1 Y<|Zl AU2 Y ?_;refine Zc [_,_,_,_,_] Y call103 Y V (sS _ p rs s hv hs hn hok t c0 lo hi ht hc hlh Tg zg) ?_;rintro _ _ ⟨_,⟨z,mem,hzx,hzo,rfl,rfl⟩,rfl⟩;refine Zm Y<|Zd Y V<|Zd Y V<|Ze (Al Af3 #[_,_,_,_,_,_,_,_,_]) ?_;rintro _ _ ⟨bp,rfl,rfl⟩;refine Xe (Xw Ab0 #[I4 z.x.tb,I4 z.x.cl,I4 z.x.lo,I4 z.x.hi,I4 z.x.ct,I4 z.x.fi,.slice z.qr z.x.rows.length z.cr,.slice z.qp z.x.paths.length z.cp,.slice z.qt z.x.roots.length z.ct]) ?_;refine Za Y<|Z0<|Zn [2,4] ?_;refine Zx<|Zg<|Zl Ah4 Y ?_;refine Zo Wh (AA (cs:=#[_,_,_,_,_,_,_,_,_]) Ak1 Ab0 Y (by(simp;done)) Ap1) ?_;refine Ze (Af (vs:=[_]) (cs:=[_,_,_,_,_,_,_,_,_]) Ac6 Ab0 Af3 Y V rfl V rfl V) ?_;rintro _ _ ⟨gb,rfl,rfl⟩;refine Ze (Bl (by_:=120) (sz:=9) Ac6 (V:Tryz.prog.info? 152=some Tryz.t152) V rfl V rfl Y (hso) Y (DD 9 gb 1 1 152 (0,0) (EN z) V) Wo Wo (by have:=ut [z];simpa using this) Ao7 Ao7) ?_;rintro _ _ ⟨sw5,hrw5,rfl⟩;obtain ⟨gw5,cw5,rfl⟩:=hrw5.form;refine Xe (Zs Ae6 Y Y V (hi:=by(simp;done))) ?_;refine Z0<|Cj rfl results102 (by exact ⟨rfl,z,mem,gw5,cw5,sw5,hzx,hzo,BO hrw5 rfl (by rw [AE2];simp),rfl⟩)
set_option maxHeartbeats 1000000 in
theorem wL(v:Value)(p:Int)(rs:List AQ)(s:List A8)(hv:Qa v p rs s)(hs:BM rs)(hn:rs.length<=2000)(hok:∀r∈rs,r.ok)(q:QM)(hq:BH q)(hl:(CF rs q).length<=100)(Tg:TypeId)(zg:Nat×Nat):BR Tryz.prog 50 #[v,.agg #[I4 q.kd,I4 q.tb,I4 q.cl,I4 q.lo,I4 q.hi,I4 q.bq,I4 q.ot]] [[(4,.cells (EW.map Ch).toArray Tg zg)],s] (fun w H'=>∃vo mem,w= .tuple #[vo,I4 0]/\Fg mem vo (FQ rs q)/\H'=[mem,[(4,.cells (EW.map Ch).toArray Tg zg)],s]):=by
 have hml:=mL;obtain ⟨sp,mb,es,ck,lm,rfl,hst9⟩:=id hv;have hcl:=hq.2.1
 have hr1:=@KC rs q.tb q.cl.toNat q.lo q.hi;have hq5:0<=q.bq/\q.bq<=3:=by have:=hq.2.2.2;omega
 have hq6:0<=q.ot/\q.ot<=3:=by have:=hq.2.2.2;omega
 refine Se func50 ntmps50 [0,1] ?_;intro u R;refine Zq<|Zg<|Ze (Bx #[_]) ?_;rintro _ _ ⟨bs,rfl,rfl⟩;refine Ze (Bx #[I4 q.kd,I4 q.tb,I4 q.cl,I4 q.lo,I4 q.hi,I4 q.bq,I4 q.ot]) ?_;rintro _ _ ⟨bq,rfl,rfl⟩;refine Za Y<|Za Y<|Z0<|Zx<|Zq<|AO<|Zq<|Zg<|Zl isAgg131 Y ?_;refine Zv (BU Aj9 Y Y)<|Za Y<|Z0<|Zx<|AR Y (fun hb0=>?_) (fun hb0=>?_)
 ·
  cases hb0
 refine Zq<|Zg<|Zo Wh (AA (cs:=#[_,_,_,_,_,_,_]) AX9 AV8 Y (by(simp;done)) Ap1) ?_;refine Xr [_] Y call34 Y V (JJ q) ?_;refine Zv (Eg Y)<|Za Y<|Z0<|Zx<|AR Y (fun hb1=>?_) (fun hb1=>?_)
 ·
  exfalso;simp [hq]at hb1
 refine AJ<|A9<|Zx<|Zq<|Zg<|Ze (Al zeroValue41 #[_]) ?_;rintro _ _ ⟨bo,rfl,rfl⟩;refine Z0<|Zx<|Zq<|Zg<|Zv (Bb (vs:=[]) (us:=[_,_]) Y Y)<|Za Y<|Z0<|Zn [2,3,6,7] ?_;refine Zx<|Zq<|Zg<|Zo Wh (AA (cs:=#[_,_,_,_,_,_,_]) AX9 AV8 Y (by(simp;done)) Ap1) ?_;refine Xr [_] Y call104 Y V (xY q hq) ?_;refine Ze (Al Ai6 #[_,_,_,_]) ?_;rintro _ _ ⟨bx,rfl,rfl⟩;refine Xe (Xw Ai2 #[I4 q.tb,I4 q.cl,I4 q.lo,I4 q.hi]) ?_;refine Z0<|Zx<|Zq<|Zg<|Zl isAgg131 Y ?_;refine Zh 0 AZ1 V rfl AU1 Y<|Zl AU2 Y ?_;refine Zh 1 AZ1 V rfl AU1 Y<|Zl AU2 Y ?_;refine Zh 2 AZ1 V rfl AU1 Y<|Zl AU2 Y ?_;refine Zh 3 AZ1 V rfl AU1 Y<|Zl AU2 Y ?_;refine Zc [_,_,_,_,_] Y call105 Y V (gN _ p rs s hv q.tb q.cl q.lo q.hi hcl) ?_;rintro _ _ ⟨_,⟨s1,h1,rfl⟩,rfl⟩;rw [show DY rs q.tb q.cl.toNat q.lo q.hi=CF rs q from rfl]at h1 hr1;obtain ⟨p1,c1,rfl⟩:=h1.form;obtain ⟨p7,cap7,e7,⟨hl7,hlc7⟩,hgr⟩:=id (D7 h1 Ao7);injection e7 with e71 e72 e73
 subst e71 e73;refine Za Y<|Z0<|Zn [3,6,7,8,9] ?_;refine Zx<|Zq<|Zq<|Zg<|Zm Y<|Zv (Aa AU4 Y)<|Zv (Df (n:=100) Y Y)<|Z0<|Zx<|Aw Y (fun hb2=>?_) (fun hb2=>?_)
 ·
  exfalso;omega
 refine AJ<|Zx<|Zq<|BV<|Zg<|Zm Y<|Zo Wh (AA (cs:=#[_,_,_,_]) isAgg202 Ai2 Y (by(simp;done)) Ap1) ?_;refine Zc [_] Y call102 Y V (vE _ p rs s hv hs hn hok q.tb q.cl q.lo q.hi hq.1 hcl hq.2.2.1.2.1 Tg zg bs bo (Z:=[]) (Bf 9 _) (zT _)) ?_;rintro _ _ ⟨_,⟨rfl,z0,F6,g0,c0,so0,hz0,hzo0,hso0,rfl⟩,rfl⟩;refine Z0<|Zx<|Zb [3,7,9,6] ?_;refine Ea (e0:=[(3,_),(7,_),(9,_)]) (H0:=[[(bo,.cells #[.slice g0 (([]:List RPZ).length+1) c0] 41 (0,0))],so0,F6]) (fun e H=>∃(Z:List RPZ) (g:Option Addr) (c:Nat) (so mm:List A8),(Z.map RPZ.x=FQ rs q/\(∀z∈Z,z.ok mm)/\BZ 9 152 (.slice g Z.length c) Z.length (Z.flatMap EN) so/\Z.length<=1000)/\e=[]/\H=[[(bo,.cells #[.slice g Z.length c] 41 (0,0))],so,mm]) Wp ?hx_1 ?hy_1
 case hx_1=>
  refine Zq<|Zg<|Zh 0 AU9 V rfl AU1 Y<|Zl AU2 Y ?_;refine Zv (CL Y Y)<|Z0<|Zx<|Aw Y (fun hb3=>?_) (fun hb3=>?_)
  ·
   refine Zq<|Zg<|Zm Y<|Zv (Aa AU4 Y)<|Zm Y<|Z0<|Zx<|AO<|Zb [43,3,6,7,41,42] ?_;refine BI (e0:=[(43,_)]) (fun m e H=>∃(k:Nat) (Z:List RPZ) (g:Option Addr) (c:Nat) (so mm:List A8),m=(CF rs q).length -k/\(k<=(CF rs q).length/\Z.map RPZ.x=ES rs q.tb.toNat q.cl.toNat q.lo q.hi::((CF rs q).take k).map (fun r=>ES rs q.ot.toNat 0 (Be r q.bq) (Be r q.bq))/\(∀z∈Z,z.ok mm)/\Z.length=k+1/\BZ 9 152 (.slice g Z.length c) Z.length (Z.flatMap EN) so)/\e=[(43,I4 (k:Int))]/\H=[[(bo,.cells #[.slice g Z.length c] 41 (0,0))],so,mm]) (by exact ⟨0,[z0],g0,c0,so0,F6,rfl,⟨zT _,by rw [AC9,AE9,AC6,hz0],fun z hz=>by rw [zI.1 hz];exact hzo0,rfl,hso0⟩,rfl,rfl⟩) Wp ?_;rintro _ _ _ ⟨k,Z,g,c,so,mm,rfl,⟨hk,hZx,hZo,hZl,hso⟩,rfl,rfl⟩;refine Zq<|Zg<|Zv (Au Y Y)<|Z0<|Zx<|Zq<|Aw Y (fun hlt=>?_) (fun hlt=>?_)
   ·
    obtain ⟨r9,hr9⟩:∃r9,(CF rs q)[k]?=some r9:=⟨_,zD hlt⟩;obtain ⟨g8,off,cur,T,zz,rfl,hm9,hsz9,hex9⟩:=hgr k r9 hr9;refine AJ<|Zx<|Zq<|AO<|Zq<|Zg<|Bq (Ai AU4 AU5 Y Y Ao7)<|CW (cs:=[(g8,.cells cur T zz)]) (by simp [hm9]) (AA (cs:=#[I4 r9.t,I4 r9.k,I4 r9.v.a,I4 r9.v.b,I4 r9.v.c]) AX3 AU5 Y Ao7 hex9) V rfl ?_;refine Ze (Al AW7 #[_,_,_,_,_]) ?_;rintro _ _ ⟨bx,rfl,rfl⟩;refine Xe (Xw AU5 #[I4 r9.t,I4 r9.k,I4 r9.v.a,I4 r9.v.b,I4 r9.v.c]) ?_;refine Z0<|Zx<|Zg<|Zm Y<|Zo Wh (AA (cs:=#[_,_,_,_,_,_,_]) AX9 AV8 Y (by(simp;done)) Ap1) ?_;refine Zo Wh (AA (cs:=#[_,_,_,_,_]) AX3 AU5 Y (by(simp;done)) Ap1) ?_;refine Xr [_,_] Y call106 Y V (Ro q hq5 r9) ?_;refine Zc [_] Y call102 Y V (vE _ p rs s hv hs hn hok q.ot 0 (Be r9 q.bq) (Be r9 q.bq) hq6 Ao7 (AM6 _) Tg zg bs bo hso Ao7) ?_;rintro _ _ ⟨_,⟨rfl,z5,mem5,g5,c5,so5,hz5,hzo5,hso5,rfl⟩,rfl⟩;refine Z0<|A9<|Zx<|C8 (s1:=mem5) (s2:=mm) Wo Wo ?_;refine Zg<|Ya (n:=1) Y Y<|Zm Y<|Z0<|Zn [43,3,6,7,41,42] ?_;refine Ad (e':=[(43,_)]) (by exact ⟨k+1,Z++[z5],g5,c5,so5,mem5++mm,rfl,⟨by omega,by rw [zK,hZx,Bc hr9,zK,AC6,hz5];rfl,fun z hz=>by rcases zJ.1 hz with h9|h9;exact (hZo z h9).mono (fun c hc=>zZ _ hc);rw [zI.1 h9];exact hzo5.mono (fun c hc=>zR _ hc),by rw [zG,hZl];rfl,by rw [zG];exact hso5⟩,rfl,by rw [zG]⟩)
   have ek:k=(CF rs q).length:=by omega
   subst ek;rw [AA4]at hZx;refine BG<|Zt<|Zt<|AX<|Zn [6] ?_;refine Bi (e':=[]) (by exact ⟨Z,_,_,so,mm,⟨by unfold FQ;rw [Am7 hb3];exact hZx,hZo,hso,by omega⟩,rfl,rfl⟩)
  refine AJ<|Zn [6] ?_;refine Bi (e':=[]) (by exact ⟨[z0],g0,c0,so0,F6,⟨by unfold FQ;rw [Am6 hb3,AC6,hz0],fun z hz=>by rw [zI.1 hz];exact hzo0,hso0,by simp⟩,rfl,rfl⟩)
 rintro _ _ ⟨Z,g,c,so,mm,⟨hZx,hZo,hso,hZl⟩,rfl,rfl⟩;refine Zq<|C8 (s1:=so) (s2:=mm) Wo Wo ?_;refine Zg<|Zl Ah4 Y ?_;refine Za Y<|Za Y<|Z0<|Zx<|AC<|Ci rfl results50 Y Y (by exact ⟨.slice g Z.length c,so++mm,rfl,by rw [<-hZx];exact lZ hso Ao7 hZo,rfl⟩)
set_option maxHeartbeats 1000000 in
theorem mK{p9:Option Addr}{cap9:Nat}(hL:Fg M (.slice p9 (L.length+1) cap9) (x::L))(hcomp:G9 x){c lo hi:Int}(hsc:x.scan=(t,c,lo,hi))(br:Nat):BR Tryz.prog 160 #[I5 br,.agg #[I4 t,I4 c,I4 lo,I4 hi]] [[(br,.cells #[.slice p9 (L.length+1) cap9] 245 (0,0))],M] (fun r H'=>∃sr,BZ 5 83 r (Dx x).length (Ac (Dx x)) sr/\H'=[sr,[(br,.cells #[.slice (En p9 1 cap9 9) L.length (cap9 -1)] 245 (0,0))],M]):=by
 have hml:=mL;obtain ⟨p8,cap8,e9,hl9,hlc9⟩:=hL.form;injection e9 with e91 e92 e93
 subst e91 e93;rw [ze]at hl9 hlc9;obtain ⟨z,hzx,hzo,g,off,cur,T,zz,rfl,hm9,hsz9,hex9⟩:=hL.at (i:=0) rfl;subst hzx;unfold RP.scan at hsc;injection hsc with hd1 hsc
 injection hsc with hd2 hsc
 injection hsc with hd3 hd4
 refine Se func160 ntmps160 [0,1] ?_;intro u R;refine Zq<|Zg<|Ze (Bx #[_,_,_,_]) ?_;rintro _ _ ⟨bx,rfl,rfl⟩;refine Za Y<|Z0<|Zx<|Zq<|Zg<|Zm Y<|Zp Y V<|Zh 0 Af8 V rfl Ae6 Y<|Zl Ah4 Y ?_;refine Zv (Aa Ac6 Y)<|Zv (Df (n:=0) Y Y) ?_;rw [Am8 (show(0:Nat)<L.length+1 by omega)];refine Xr [_] Y call159 Y V (Jy) ?_;refine Z0<|Zx<|Zq<|Zg<|Zm Y<|Zp Y V<|Zh 0 Af8 V rfl Ae6 Y<|Zl Ah4 Y ?_;refine Bq (Ai (j:=0) Ac6 Ab0 Y Y Ao7)<|CW (cs:=[(g,.cells cur T zz)]) (by simp [hm9]) (AA (cs:=#[I4 z.x.tb,I4 z.x.cl,I4 z.x.lo,I4 z.x.hi,I4 z.x.ct,I4 z.x.fi,.slice z.qr z.x.rows.length z.cr,.slice z.qp z.x.paths.length z.cp,.slice z.qt z.x.roots.length z.ct]) Ak1 Ab0 Y Ao7 hex9) V rfl ?_;refine Ze (Al Af3 #[_,_,_,_,_,_,_,_,_]) ?_;rintro _ _ ⟨bp,rfl,rfl⟩;refine Xe (Xw Ab0 #[I4 z.x.tb,I4 z.x.cl,I4 z.x.lo,I4 z.x.hi,I4 z.x.ct,I4 z.x.fi,.slice z.qr z.x.rows.length z.cr,.slice z.qp z.x.paths.length z.cp,.slice z.qt z.x.roots.length z.ct]) ?_;refine Z0<|Zn [0,3,5] ?_;refine Zx<|Zq<|Zg<|Zm Y<|Zm Y<|Zp Y V<|Zh 0 Af8 V rfl Ae6 Y<|Zl Ah4 Y ?_;refine Bq (CR (l:=1) Ac6 Ab0 Y Y Ao7)<|Zp Y V<|Zh 0 Af8 V rfl Ae6 Y<|Xe (Zs Ae6 Y Y V (hi:=by(simp;done))) ?_;refine Z0<|Zx<|Zq<|Zg<|Zh 0 AU8 V rfl AU1 Y<|Zl AU2 Y (hv:=by exact (V:_=some (Value.int .i64 z.x.tb))) ?_;refine Zh 1 AU8 V rfl AU1 Y<|Zl AU2 Y (hv:=by exact (V:_=some (Value.int .i64 z.x.cl))) ?_;refine Zh 2 AU8 V rfl AU1 Y<|Zl AU2 Y (hv:=by exact (V:_=some (Value.int .i64 z.x.lo))) ?_;refine Zh 3 AU8 V rfl AU1 Y<|Zl AU2 Y (hv:=by exact (V:_=some (Value.int .i64 z.x.hi))) ?_;refine Zv (BL (vs:=[(0,I4 z.x.tb),(1,I4 z.x.cl),(2,I4 z.x.lo),(3,I4 z.x.hi)]) (cs:=#[I4 z.x.tb,I4 z.x.cl,I4 z.x.lo,I4 z.x.hi]) Y (AY (pl:=#[(0,1),(1,1),(2,1),(3,1)]) Ai6 AZ1 (fun _=>by kernel_rfl) Ao8))<|Zo Wh (AA (cs:=#[I4 t,I4 c,I4 lo,I4 hi]) isAgg202 Ai2 Y (by(simp;done)) Ap1) ?_;refine Zv (Xb Ao8 AZ1 Ao8 Ao9 Ao9 Ao9 Ao9 AV3 AU2 Y Y) ?_;rw [Am8 (show z.x.tb=t/\z.x.cl=c/\z.x.lo=lo/\z.x.hi=hi from⟨hd1,hd2,hd3,hd4⟩)];refine Xr [_] Y call159 Y V (Jy) ?_;refine Z0<|Zn [5] ?_
 refine Zx<|Zq<|Zg<|Zo Wh (AA (cs:=#[I4 z.x.tb,I4 z.x.cl,I4 z.x.lo,I4 z.x.hi,I4 z.x.ct,I4 z.x.fi,.slice z.qr z.x.rows.length z.cr,.slice z.qp z.x.paths.length z.cp,.slice z.qt z.x.roots.length z.ct]) Ak1 Ab0 Y (by(simp;done)) Ap1) ?_;refine Zc [_] Y call218 Y V (wH hzo.rp hcomp V) ?_;rintro _ _ ⟨_,⟨vr,sr,rfl,hr9,rfl⟩,rfl⟩;obtain ⟨gr,c9,rfl⟩:=hr9.form;refine Zm Y<|Zd Y V<|Zd Y V<|Za Y<|Za Y<|Z0<|Zx<|Zq<|Zg<|Zm Y<|Xr [_] Y call159 Y V (Jy) ?_;refine Z0<|Zx<|Zq<|Zg<|Zm Y<|Za Y<|Z0<|Zx<|AC<|AL V results160 Y (by exact ⟨sr,hr9,V⟩)
theorem O6(h:G9 x):(Dx x).length<=2000/\∀r∈Dx x,r.ok:=by
 have h1:=h.ct;have h2:=h.fi
 have h3:=h.n;rw [aH h];refine ⟨by have:=AD3 (inB x) x.rows;omega,fun r hr=>?_⟩;obtain ⟨j,hj⟩:=AA1 (AA2.1 hr).1;exact (h.all j r hj).1.1
theorem dC{α:Type}{l:List α}{k:Nat}{x:α}(h:l[k]?=some x):l.drop k=x::l.drop (k+1):=by
 obtain ⟨h1,rfl⟩:=zF.1 h;exact AD0 h1
set_option maxHeartbeats 1000000 in
theorem VQ(hL:Fg M v L)(q:QM)(hr:ED q L=some r):BR Tryz.prog 90 #[.agg #[I4 q.kd,I4 q.tb,I4 q.cl,I4 q.lo,I4 q.hi,I4 q.bq,I4 q.ot],v] [M] (fun w H'=>∃rv sr,w= .tuple #[.agg #[rv,I4 r.val,.bool r.fnd],.bool true]/\BZ 5 83 rv r.rows.length (Ac r.rows) sr/\H'=[sr,M]):=by
 have hml:=mL;obtain ⟨x,L2,rfl,hq,hsc,hcomp,hl100,hcase⟩:=Pq hr;obtain ⟨pv,cv,rfl,_⟩:=hL.form;rw [ze]at hL;rw [ze];have hT:=hL.tail
 rw [AG2]at hT;have hq5:0<=q.bq/\q.bq<=3:=by have:=hq.2.2.2;omega
 refine Cz func90 V ntmps90 V ?_;intro u R;refine Zb [0,1] ?_;refine Zq<|Zg<|Ze (Bx #[I4 q.kd,I4 q.tb,I4 q.cl,I4 q.lo,I4 q.hi,I4 q.bq,I4 q.ot]) ?_;rintro _ _ ⟨bq,rfl,rfl⟩;refine Ze (Al AW5 #[_,_,_]) ?_;rintro _ _ ⟨bo,rfl,rfl⟩;refine Ze (Al Ae9 #[_]) ?_;rintro _ _ ⟨bk,rfl,rfl⟩;refine Z0<|Zx<|Zq<|Zg<|Zv (Bb (vs:=[]) (us:=[_,_]) Y Y)<|iW V Y ?_;refine Z0<|Zx<|Zq<|Zg<|Xe (Zs AX8 Y Y V (hi:=by decide)) ?_;refine Z0<|Zx<|Zq<|Zg<|bB V Y ?_;refine Z0<|Zx<|Zq<|Zg<|Zo Wh (AA (cs:=#[_,_,_,_,_,_,_]) AX9 AV8 Y (by(simp;done)) Ap1) ?_;refine Xr [_] Y call34 Y V (JJ q) ?_;rw [Am8 hq];refine Xr [_] Y call159 Y V (Jy) ?_;refine Z0<|Zx<|Zq<|Zg<|Zm Y<|Zv (BL (vs:=[(0,_)]) (cs:=#[_]) Y (AY (pl:=#[(0,1)]) zeroValue245 Af8 (fun _=>by kernel_rfl) V))<|Ze (Bx #[_]) ?_;rintro _ _ ⟨br,rfl,rfl⟩;refine Za Y<|Z0<|Zn [2,4,5,6] ?_;refine Zx<|Zq<|Zg<|Zm Y<|Zo Wh (AA (cs:=#[_,_,_,_,_,_,_]) AX9 AV8 Y (by(simp;done)) Ap1) ?_;refine Xr [_] Y call104 Y V (xY q hq) ?_;refine Zc [_,_] Y call160 Y V (mK hL hcomp hsc br) ?_;rintro _ _ ⟨_,⟨sr,hsr,rfl⟩,rfl⟩;obtain ⟨gr,cr9,rfl⟩:=hsr.form;have hUr:=D7 hsr Ao7
 obtain ⟨p7,cap7,e7,⟨hl7,hlc7⟩,hgr⟩:=id hUr;injection e7 with e71 e72 e73
 subst e71 e73;refine Za Y<|Z0<|Zx<|Zq<|Zg<|Zm Y<|Zv (Aa AU4 Y)<|Zv (Gv (n:=100) Y Y) ?_;rw [Am8 (show(Dx x).length<=100 by omega)];refine Xr [_] Y call159 Y V (Jy) ?_;refine Z0<|Zx<|Zq<|BV<|Zg<|Za Y<|Z0<|Zx<|Zb [8,2,4,5,6,7] ?_;refine Ea (e0:=[(8,_)]) (H0:=[[(br,.cells #[_] 245 (0,0))],[]]) (fun e H=>∃(o:List AQ) (vo:Value) (so:List A8) (pr:Option Addr) (cr:Nat),(r=F8 q (Dx x) o/\BZ 5 83 vo o.length (Ac o) so/\o.length<=200000)/\e=[(8,vo)]/\H=[[(br,.cells #[.slice pr 0 cr] 245 (0,0))],so]) Wp ?hx_1 ?hy_1
 case hx_1=>
  refine Zq<|Zg<|Zh 0 AU9 V rfl AU1 Y<|Zl AU2 Y ?_;refine Zv (CL Y Y)<|Z0<|Zx<|Aw Y (fun hb3=>?_) (fun hb3=>?_)
  ·
   obtain ⟨oall,hall,hrj0⟩:∃o,EQ q (Dx x) L2=some (o,[])/\r=F8 q (Dx x) o:=by rcases hcase with⟨h9,_⟩|⟨_,h9⟩;exact absurd hb3 h9;exact h9
   refine Zq<|Zg<|Zm Y<|Zv (Aa AU4 Y)<|Zm Y<|Z0<|Zx<|AO<|Zb [8,31,2,4,5,6,7,29,30] ?_;refine BI (e0:=[(8,_),(31,_)]) (fun m e H=>∃(k:Nat) (o:List AQ) (l9:List RP) (vo:Value) (so:List A8) (pr:Option Addr) (cr:Nat),m=(Dx x).length -k/\(k<=(Dx x).length/\EQ q ((Dx x).take k) L2=some (o,l9)/\BZ 5 83 vo o.length (Ac o) so/\Fg M (.slice pr l9.length cr) l9/\o.length<=2000*k)/\e=[(8,vo),(31,I4 (k:Int))]/\H=[[(br,.cells #[.slice pr l9.length cr] 245 (0,0))],so]) (by exact ⟨0,[],L2,.slice none 0 0,[],_,_,V,⟨zT _,V,Bf 5 _,hT,zT _⟩,V,V⟩) Wp ?_;rintro _ _ _ ⟨k,o,l9,vo,so,pr,cr,rfl,⟨hk,hrd,hso,hPk,hok⟩,rfl,rfl⟩;obtain ⟨go,co,rfl⟩:=hso.form;refine Zq<|Zg<|Zv (Au Y Y)<|Z0<|Zx<|Zq<|Aw Y (fun hlt=>?_) (fun hlt=>?_)
   ·
    obtain ⟨r9,hr9⟩:∃r9,(Dx x)[k]?=some r9:=⟨_,zD hlt⟩;obtain ⟨g,off,cur,T,zz,rfl,hm9,hsz9,hex9⟩:=hgr k r9 hr9;obtain ⟨o8,l8,h81,o9,h82,_⟩:=O9 (Dx x) k L2 (oall,[]) Ao7 hall;rw [hrd]at h81;injection h81 with h81
    injection h81 with h83 h84
    subst h83 h84;rw [dC hr9]at h82;obtain ⟨a9,c9,h85,_,_⟩:=LH h82;obtain ⟨x2,hl2,hsc2,hcomp2,ha2⟩:=RZ h85;have hlen2:=(O6 hcomp2).1
    have hsn:=Pz (Dx x) k r9 L2 _ _ a9 hr9 hrd h85;rw [hl2,ze];rw [hl2,ze]at hPk;refine AJ<|Zx<|Zq<|AO<|Zq<|Zg<|Bq (Ai AU4 AU5 Y Y Ao7)<|CW (cs:=[(g,.cells cur T zz)]) (by simp [hm9]) (AA (cs:=#[I4 r9.t,I4 r9.k,I4 r9.v.a,I4 r9.v.b,I4 r9.v.c]) AX3 AU5 Y Ao7 hex9) V rfl ?_;refine Ze (Al AW7 #[_,_,_,_,_]) ?_;rintro _ _ ⟨bx,rfl,rfl⟩;refine Xe (Xw AU5 #[I4 r9.t,I4 r9.k,I4 r9.v.a,I4 r9.v.b,I4 r9.v.c]) ?_;refine Z0<|Zx<|Zg<|Zm Y<|Zm Y<|Zo Wh (AA (cs:=#[_,_,_,_,_,_,_]) AX9 AV8 Y (by(simp;done)) Ap1) ?_;refine Zo Wh (AA (cs:=#[_,_,_,_,_]) AX3 AU5 Y (by(simp;done)) Ap1) ?_;refine Xr [_,_] Y call106 Y V (Ro q hq5 r9) ?_;refine Zc [_,_] Y call160 Y V (mK hPk hcomp2 hsc2 br) ?_;rintro _ _ ⟨_,⟨s5,h5,rfl⟩,rfl⟩;rw [<-ha2]at h5;obtain ⟨g5,c5,rfl⟩:=h5.form;refine Ze (Bl (by_:=40) (sz:=5) AU4 (rfl:Tryz.prog.info? 83=some Tryz.t83) rfl rfl rfl rfl Y (hso) Y (ru h5) Wo Wo (by exact EH _) (by rw [ha2];omega) (by rw [ha2];omega)) ?_;rintro _ _ ⟨sa9,hra9,rfl⟩;obtain ⟨ga9,ca9,rfl⟩:=hra9.form;refine Za Y<|Z0<|Zn [2,4,5,6,7,8,29,30,31] ?_;refine A9<|Zx<|Zg<|Ya (n:=1) Y Y<|Zm Y<|Z0<|Zn [8,31,2,4,5,6,7,29,30] ?_;refine Ad (e':=[(8,_),(31,_)]) (by exact ⟨k+1,o++a9.1,a9.2,_,_,_,_,rfl,⟨by omega,hsn,BO hra9 (by rw [zG]) (by rw [C9]),hPk.tail,by rw [zG,ha2];omega⟩,rfl,rfl⟩)
   have ek:k=(Dx x).length:=by omega
   subst ek;rw [AA4,hall]at hrd;injection hrd with hrd
   injection hrd with hrd1 hrd2
   subst hrd1 hrd2;have hrj:=hrj0
   refine BG<|Zt<|Zt<|AX<|Zn [8,2,4,5,6,7] ?_;refine Bi (e':=[(8,_)]) (by exact ⟨oall,.slice go oall.length co,so,pr,cr,⟨hrj0,hso,by omega⟩,V,V⟩)
  obtain ⟨hL2,hrn⟩:L2=[]/\r=F8 q (Dx x) []:=by rcases hcase with⟨_,h9⟩|⟨h9,_⟩;exact h9;exact absurd h9 hb3
  subst hL2;refine AJ<|Zn [8,2,4,5,6,7] ?_;refine Bi (e':=[(8,_)]) (by exact ⟨[],.slice none 0 0,[],En pv 1 cv 9,cv -1,⟨hrn,Bf 5 _,zT _⟩,V,V⟩)
 rintro _ _ ⟨o,vo,so,pr,cr,⟨hr8,hso,hol⟩,rfl,rfl⟩;obtain ⟨go,co,rfl⟩:=hso.form;have hUo:=D7 hso Ao7
 refine Zq<|Zg<|Zm Y<|Zp Y V<|Zh 0 Af8 V rfl Ae6 Y<|Zl Ah4 Y ?_;refine Zv (Aa Ac6 Y)<|Zv (DL (n:=0) Y Y) ?_;rw [Am8 (show(0:Nat)=0 from rfl)];refine Xr [_] Y call159 Y V (Jy) ?_;refine Z0<|Zx<|Zq<|Zg<|Zo Wh (AA (cs:=#[_,_,_,_,_,_,_]) AX9 AV8 Y (by(simp;done)) Ap1) ?_;refine Zm Y<|Zm Y<|Zc [_,_,_] Y call161 Y V (oq hUr hUo q Ao7 (fun _ r hr=>VM ((O6 hcomp).2 r hr) q.bq)) ?_;rintro _ _ ⟨_,⟨rv3,s3,rfl,h3,rfl⟩,rfl⟩;rw [OW hq,<-hr8]at h3⊢;obtain ⟨p3,c3,rfl⟩:=h3.form;refine Xe (Xw AU3 #[.slice p3 r.rows.length c3,I4 r.val,.bool r.fnd]) ?_;refine Xe (Zs AX8 Y Y V (hi:=by decide)) ?_;refine Z0<|Zn [4,5] ?_;refine Zx<|AC<|nU V rfl call158 (uW _) V call157 (vZ bk _) Wp ?_;rintro _ rfl;refine ⟨_,[s3,M],fun a w hf hs=>TW results90 ((CJ a _ hf 4).trans rfl) (Ap AV6 AU3 (by exact zh _) (cs:=#[.slice p3 r.rows.length c3,I4 r.val,.bool r.fnd]) (BD rfl) w (YF (b:=bo) Wh hs)) ((CJ a _ hf 5).trans rfl) (Xn Ab8 (v:= .bool true) (i:=0) rfl w (YF (b:=bk) Wh hs)),⟨_,s3,rfl,h3,rfl⟩,Sub.amid (by repeat(first|exact Sub.refl _|exact Sub.nil _|(apply Sub.cons;(focus (repeat(first|exact One.here _ _|apply One.there))))|refine Sub.drop _ ?_))⟩
theorem NN{α:Type}(f:α->List Value)(sz:Nat)(hf:∀a,(f a).length=sz)(h0:0<sz){l:List α}(hg:∀(i:Nat) (a:α),l[i]?=some a->∃g off cur T zz,p=some ⟨g,off,none⟩/\(g,Obj.cells cur T zz)∈M/\off+i*sz+sz<=cur.size/\cur.extract (off+i*sz) (off+i*sz+sz)=(f a).toArray):F5 M p (l.flatMap f):=by
 intro j u hj;have hlen:(l.flatMap f).length=l.length*sz:=by
  clear hg hj;induction l with
  |nil=>simp
  |cons a l ih=>rw [AB2,zG,ih,hf,ze,AH9];omega
 have hjl:=(zF.1 hj).1;rw [hlen]at hjl;have hd:=Nat.div_add_mod j sz
 have hm:=AU0 j h0;have hi:j/sz<l.length:=AQ6 (by rw [AT2];exact hjl)
 obtain ⟨a,ha⟩:∃a,l[j/sz]?=some a:=⟨_,zD hi⟩;obtain ⟨g,off,cur,T,zz,rfl,hmem,hsz,hex⟩:=hg (j/sz) a ha;refine ⟨g,off,cur,T,zz,V,hmem,?_⟩;have h1:=OZ hex hsz (j%sz) hm
 have h2:=KP f sz hf l (j/sz) a ha;have e1:j/sz*sz+j%sz=j:=by rw [AT2];exact hd
 have h3:(l.flatMap f)[j/sz*sz+j%sz]?=(f a)[j%sz]?:=by rw [<-h2,AA7,Am7 hm,AE1]
 rw [e1,hj]at h3;rw [show off+j=off+j/sz*sz+j%sz by omega,h1,AP8];exact h3.symm
theorem fU(h:ZsU M (.slice p n cap) Z):F5 M p (Z.flatMap EN):=by
 obtain ⟨p',cap',e,_,hg⟩:=h;injection e with e1 e2 e3
 subst e1;exact NN _ 9 (fun _=>rfl) Ao9 fun i z hz=>(hg i z hz).2
theorem aO(h:EA M (.slice p n cap) l):F5 M p (DZ l):=by
 obtain ⟨p',cap',e,_,hg⟩:=h;injection e with e1 e2 e3
 subst e1;exact NN _ 2 (fun _=>rfl) Ao9 fun i z hz=>(hg i z hz).2
theorem TY(l:List BN):(DZ l).length=l.length*2:=by
 induction l with
 |nil=>rfl
 |cons a l ih=>unfold DZ at*;rw [AB2,zG,ih];simp only [ze,AF4];omega
theorem Vd(l:List BN):∀u∈DZ l,u.oneCell'=true:=by
 intro u hu;obtain ⟨z,_,h⟩:=AF8.1 hu;simp only [za,AH2,An6]at h;rcases h with rfl|rfl<;>rfl
structure ZC where
 q:QM
 res:Bw
 since:Int
 until_:Int
 base:Int
 ranges:List RP
 recs:List BN
structure U1 where
 a:ZC
 rp:Option Addr
 rc:Nat
 gp:Option Addr
 gc:Nat
 cp:Option Addr
 cc:Nat
def U1.ok(M:List A8)(z:U1):Prop:=Dh M (.slice z.rp z.a.res.rows.length z.rc) z.a.res.rows/\Fg M (.slice z.gp z.a.ranges.length z.gc) z.a.ranges/\EA M (.slice z.cp z.a.recs.length z.cc) z.a.recs
theorem LG(h:EA M v l)(hm:∀c∈M,c∈M'):EA M' v l:=by
 obtain ⟨p,cap,e,hl,hg⟩:=h;refine ⟨p,cap,e,hl,fun i r hr=>?_⟩;obtain ⟨⟨p2,cap2,e2,hl2,hg2⟩,g,off,cur,T,zz,h3,h4,h5⟩:=hg i r hr;refine ⟨⟨p2,cap2,e2,hl2,fun j c hc=>?_⟩,g,off,cur,T,zz,h3,hm _ h4,h5⟩;obtain ⟨g,off,cur,T,zz,h3,h4,h5⟩:=hg2 j c hc;exact ⟨g,off,cur,T,zz,h3,hm _ h4,h5⟩
theorem U1.ok.mono{z:U1}(h:z.ok M)(hm:∀c∈M,c∈M'):z.ok M':=⟨h.1.mono hm,h.2.1.mono hm,LG h.2.2 hm⟩
noncomputable def Jb(q:QM)(base:Int)(L:List RP)(recs:List BN):Option ZC:=(ED q L).bind fun r=>if recs.length<=64 then(FX q base 0 (r,base) recs).map fun st=>⟨q,st.1,st.2,base+(recs.length:Int),base,L,recs⟩else none
variable{base:Int}
theorem dU{recs:List BN}(h:¬recs.length<=64):Jb q base L recs=none:=by
 unfold Jb;cases ED q L with
 |none=>rfl
 |some r=>rw [AC4,Am6 h]
theorem Pm{recs:List BN}(hr:ED q L=some r)(h:recs.length<=64):Jb q base L recs=(FX q base 0 (r,base) recs).map fun st=>⟨q,st.1,st.2,base+(recs.length:Int),base,L,recs⟩:=by
 unfold Jb;rw [hr,AC4,Am7 h]
theorem LF(h:(Av q r base l).2.2=true):FX q base 0 (r,base) l=some ((Av q r base l).1,(Av q r base l).2.1):=by
 unfold Av at*;split at h
 · rename_i st h9;rw [h9]
 · cases h
theorem XL(h:(Av q r base l).2.2=false):FX q base 0 (r,base) l=none:=by
 unfold Av at*;split at h
 · cases h
 · rename_i h9;exact h9
theorem fI(hq:BH q){rows others:List AQ}(hl:rows.length<=100)(hok:∀r∈rows,r.ok):(F8 q rows others).rows.length<=200/\-1000000000000000000<=(F8 q rows others).val/\(F8 q rows others).val<=1000000000000000000:=by
 have hm:=fA (q:=q) (rows:=rows) (fun r hr=>VM (hok r hr) q.bq);have hl2:(Cg q rows).length<=1000000000:=by rw [Jr];omega
 have hj:=SN q rows others;have hx:∀(lt:Int->Int->Bool) (hlt:∀a b c,lt b a=false->lt c b=false->lt c a=false) (hirr:∀a,lt a a=false) (hasy:∀a b,lt a b=true->lt b a=false),(E8 lt (Cg q rows)).rows.length<=200/\-1000000000000000000<=(E8 lt (Cg q rows)).val/\(E8 lt (Cg q rows)).val<=1000000000000000000:=fun lt a1 a2 a3=>by
  cases hms:Cg q rows with
  |nil=>exact ⟨zT _,by show(_:Int)<=0;decide,by show(0:Int)<=_;decide⟩
  |cons z ms=>
   obtain ⟨x,hx1,_,hx2⟩:=Jw lt a1 a2 a3 z ms;rw [hx2];rw [hms]at hm;have:=hm x hx1
   exact ⟨zT _,by show _<=x;omega,by show x<=_;omega⟩
 have hsum:=eB hm hl2 (Cg q rows).length;rw [AA4]at hsum;unfold F8;split
 · exact ⟨zT _,by simp only;omega,by simp only;omega⟩
 · split
   · exact ⟨zT _,hsum⟩
   · split
     · exact hx _ (fun a b c h1 h2=>by simp only [An0]at*;omega) (fun a=>by simp) (fun a b h=>by simp only [Am9,An0]at*;omega)
     · split
       · exact hx _ (fun a b c h1 h2=>by simp only [An0]at*;omega) (fun a=>by simp) (fun a b h=>by simp only [Am9,An0]at*;omega)
       · split
         · exact ⟨by simp only;omega,by simp only;decide,by simp only;decide⟩
         · exact ⟨by simp only;omega,by simp only;decide,by simp only;decide⟩
theorem Lp{sz:Nat}{e:TypeId}{xs:List Value}(h:BZ sz e v n xs s):n<=maxLen:=by
 obtain ⟨_,⟨_,h0,_⟩|⟨_,_,_,_,_,_,h1,h2,_⟩⟩:=h
 · omega
 · omega
theorem Ky(h:ED q L=some r):BH q/\r.rows.length<=200/\-1000000000000000000<=r.val/\r.val<=1000000000000000000:=by
 obtain ⟨x,L2,_,hq,_,hc,hl,h9⟩:=Pq h;refine ⟨hq,?_⟩;rcases h9 with⟨_,_,rfl⟩|⟨_,o,_,rfl⟩
 · exact fI hq hl (O6 hc).2
 · exact fI hq hl (O6 hc).2
theorem Kl(hv:ZsU M v Z)(hb:Z.length<=1000000):BR Tryz.prog 118 #[v] [M] (fun r H'=>∃sr,BZ 9 152 r Z.length (Z.flatMap EN) sr/\H'=[sr,M]):=by
 have hml:=mL;have hcm:=hv
 obtain ⟨p,cap,rfl,⟨hl,hlc⟩,hg⟩:=id hv;replace hcm:=fU hcm;refine Se func118 ntmps118 [0] ?_;intro u R;refine Zq<|Zg<|Za Y<|Z0<|Zx<|Zq<|Zq<|Zg<|Zm Y<|Zv (DX Ac6 Y Y)<|Z0<|Zx<|AR Y (fun hp=>?_) (fun hp=>?_)
 ·
  have hp0:p=none:=by cases p with
   |none=>rfl
   |some x=>cases hp
  have h0:Z=[]:=by
   cases Z with
   |nil=>rfl
   |cons x l=>obtain ⟨_,g,off,cur,T,zz,e9,_⟩:=hg 0 x rfl;rw [hp0]at e9;cases e9
  refine Zq<|BV<|Zg<|Za Y<|Z0<|Zx<|AC<|Zt<|AL rfl results118 Y (by exact ⟨[],by rw [h0];exact Bf 9 _,rfl⟩)
 refine AJ<|Zx<|Zq<|Zg<|Ze (Dw Ac6 Ab0) ?_;rintro _ _ ⟨g1,rfl,rfl⟩;refine Zm Y<|Ze (Gi (by_:=120) (sz:=9) Ac6 (V:Tryz.prog.info? 152=some Tryz.t152) V rfl V rfl Y (Im 9 152 g1 0 [] V Ao9) Y (hcm) (by exact xA _) Ao9 Wo Wo (by exact ut _) Ao7 Ao7) ?_;rintro _ _ ⟨sa1,hra1,rfl⟩;replace hra1:=BO hra1 (zo _) (AD8 _);refine Za Y<|Z0<|Zx<|AC<|AL V results118 Y (by exact ⟨_,hra1,V⟩)
theorem He{Z:List BN}(hv:EA M v Z)(hb:Z.length<=1000000):BR Tryz.prog 53 #[v] [M] (fun r H'=>∃sr,BZ 2 50 r Z.length (DZ Z) sr/\H'=[sr,M]):=by
 have hml:=mL;have hcm:=hv
 obtain ⟨p,cap,rfl,⟨hl,hlc⟩,hg⟩:=id hv;replace hcm:=aO hcm;refine Se func53 ntmps53 [0] ?_;intro u R;refine Zq<|Zg<|Za Y<|Z0<|Zx<|Zq<|Zq<|Zg<|Zm Y<|Zv (DX AV9 Y Y)<|Z0<|Zx<|AR Y (fun hp=>?_) (fun hp=>?_)
 ·
  have hp0:p=none:=by cases p with
   |none=>rfl
   |some x=>cases hp
  have h0:Z=[]:=by
   cases Z with
   |nil=>rfl
   |cons x l=>obtain ⟨_,g,off,cur,T,zz,e9,_⟩:=hg 0 x rfl;rw [hp0]at e9;cases e9
  refine Zq<|BV<|Zg<|Za Y<|Z0<|Zx<|AC<|Zt<|AL rfl results53 Y (by exact ⟨[],by rw [h0];exact Bf 2 _,rfl⟩)
 refine AJ<|Zx<|Zq<|Zg<|Ze (Dw AV9 AX5) ?_;rintro _ _ ⟨g1,rfl,rfl⟩;refine Zm Y<|Ze (Gi (by_:=32) (sz:=2) AV9 (V:Tryz.prog.info? 50=some Tryz.t50) V rfl V rfl Y (Im 2 50 g1 0 [] V Ao9) Y (hcm) (by exact TY _) Ao9 Wo Wo (by exact Vd _) Ao7 Ao7) ?_;rintro _ _ ⟨sa1,hra1,rfl⟩;replace hra1:=BO hra1 (zo _) (AD8 _);refine Za Y<|Z0<|Zx<|AC<|AL V results53 Y (by exact ⟨_,hra1,V⟩)
set_option maxHeartbeats 1000000 in
theorem qH(q:QM)(te base:Int)(hb:-1000000000000<=base/\base<=1000000000000){pg:Option Addr}{cg:Nat}(hL:Fg M (.slice pg L.length cg) L)(hLl:L.length<=1000000)(hr:ED q L=some r){lv:Value}(hl:EA M lv l)(hcs:∀x∈l,x.cs.length<=1000):BR Tryz.prog 60 #[.agg #[I4 q.kd,I4 q.tb,I4 q.cl,I4 q.lo,I4 q.hi,I4 q.bq,I4 q.ot,I4 te,I4 base,.slice pg L.length cg],lv] [M] (fun w H'=>(∃(z:U1) (s3 s1 s2:List A8),Jb q base L l=some z.a/\z.ok (s3++(s1++(s2++M)))/\w= .tuple #[.agg #[I4 z.a.q.kd,I4 z.a.q.tb,I4 z.a.q.cl,I4 z.a.q.lo,I4 z.a.q.hi,I4 z.a.q.bq,I4 z.a.q.ot,.slice z.rp z.a.res.rows.length z.rc,I4 z.a.res.val,.bool z.a.res.fnd,I4 z.a.since,I4 z.a.until_,I4 z.a.base,.slice z.gp z.a.ranges.length z.gc,.slice z.cp z.a.recs.length z.cc],.bool true]/\H'=[s3,s1,s2,M])\/(Jb q base L l=none/\w= .tuple #[.agg #[I4 0,I4 0,I4 0,I4 0,I4 0,I4 0,I4 0,.slice none 0 0,I4 0,.bool false,I4 0,I4 0,I4 0,.slice none 0 0,.slice none 0 0],.bool false]/\H'=[M])):=by
 have hml:=mL;obtain ⟨hq,hrn,hrv⟩:=Ky hr;obtain ⟨pl,cl,rfl,hl1,hl2⟩:=id hl;obtain ⟨Z,hZ,hZx⟩:=id hL;have hZl:Z.length=L.length:=by rw [<-hZx,zH]
 obtain ⟨pz,cz,ez,_,hzg⟩:=id hZ;refine Se func60 ntmps60 [0,1] ?_;intro u R;refine Zq<|Zg<|Ze (Bx #[I4 q.kd,I4 q.tb,I4 q.cl,I4 q.lo,I4 q.hi,I4 q.bq,I4 q.ot,I4 te,I4 base,.slice pg L.length cg]) ?_;rintro _ _ ⟨be,rfl,rfl⟩;refine Ze (Al AY8 #[_,_,_,_,_,_,_,_,_,_,_,_,_,_,_]) ?_;rintro _ _ ⟨bo,rfl,rfl⟩;refine Za Y<|Z0<|Zx<|Zq<|Zg<|Zh 0 AV7 V rfl AV8 Y<|Zo Wh (AA (cs:=#[_,_,_,_,_,_,_]) AX9 AV8 Y (by(simp;done)) Ap1) ?_;refine Zh 9 AV7 V rfl Ae6 Y<|Zl Ah4 Y ?_;refine Zc [_,_] Y call90 Y V (VQ hL q hr) ?_;rintro _ _ ⟨_,⟨rv0,s0,rfl,h0,rfl⟩,rfl⟩;obtain ⟨p0,c0,rfl⟩:=h0.form;have hU0:=D7 h0 Ao7
 refine Zm Y<|Zd Y V<|Zd Y V<|Ze (Al AW5 #[_,_,_]) ?_;rintro _ _ ⟨bs,rfl,rfl⟩;refine Xe (Xw AU3 #[.slice p0 r.rows.length c0,I4 r.val,.bool r.fnd]) ?_;refine Za Y<|Z0<|Zn [1,2,4,6,7] ?_;refine Zx<|Zq<|Zq<|Zg<|Zm Y<|Zv (Br Y)<|Zm Y<|Aj (t:=19) Y V (fun hb0=>?_) (fun hb0=>?_)
 ·
  cases hb0
 refine Zf Y Y<|Yg (Aa AV9 Y)<|Yg (Df (n:=64) Y Y)<|Zv (AU Y Y)<|Z0<|Zx<|Aw Y (fun hlen=>?_) (fun hlen=>?_)
 ·
  refine Zq<|Zg<|Zv (BL (vs:=[]) (cs:=#[_,_,_,_,_,_,_,_,_,_,_,_,_,_,_]) Y (AY (pl:=#[(0,7),(7,3),(10,1),(11,1),(12,1),(13,1),(14,1)]) AY8 AY4 (fun _=>by kernel_rfl) rfl))<|Xe (BK Ab5 Y Y Ap9 Wu (by exact Dr rfl) Ap3 Ao9 (by exact BF _)) ?_;refine Za Y<|Z0<|Zx<|AC<|Zt<|Bu V results60 Y Wh (Ap isAgg55 Ab5 Wn (BD V)) Y (by exact .inr ⟨dU Ao7,V,V⟩)
 refine AJ<|Zx<|Zb [1,2,4,6] ?_;refine Ea (e0:=[]) (H0:=[]) (fun e H=>∃(ba:Nat) (g1:Option Addr) (c1:Nat) (s1:List A8) (g2:Option Addr) (c2:Nat) (s2:List A8),(BZ 9 152 (.slice g1 L.length c1) Z.length (Z.flatMap EN) s1/\BZ 2 50 (.slice g2 l.length c2) l.length (DZ l) s2)/\e=[(8,I5 ba)]/\H=[[(ba,.cells #[I4 q.kd,I4 q.tb,I4 q.cl,I4 q.lo,I4 q.hi,I4 q.bq,I4 q.ot,.slice none 0 0,I4 0,.bool false,I4 0,I4 (base+(l.length:Int)),I4 base,.slice g1 L.length c1,.slice g2 l.length c2] 55 (0,0))],s1,s2]) Wp ?hx_2 ?hy_2
 case hx_2=>
  refine Az (n:=17) (0::1::0::4::0::16::60::0::128::0::512::1536::0::7680::16383::0::65535::[]) 108544 Ao8 Ao8 V<|An9 0 V (AB (off:=0) AV7 V rfl AV8 Y)<|Ao4 1 V Wh (AA (cs:=#[_,_,_,_,_,_,_]) AX9 AV8 Y (by(simp;done)) Ap1) ?_;refine An9 2 V (AB (off:=8) AV7 V rfl AU1 Y)<|Ao0 3 V AU2 Y ?_;refine An9 4 V (AP Y)<|An9 5 V (Aa AV9 Y) ?_
  (refine Ev (D':=127) 6 (Ke Y Y (IntWalk.i64_in _ ?_)) ?_;(focus (omega)))
  refine An9 7 V (AB (off:=8) AV7 V rfl AU1 Y)<|Ao0 8 V AU2 Y ?_;refine An9 9 V (AB (off:=9) AV7 V rfl Ae6 Y)<|Ao0 10 V Ah4 Y ?_;refine An9 12 V (AP Y)<|Zz (l:=[11,15])<|Ao5 [false,true,true,true] [(8,(_,_)),(3,(_,_)),(1,(_,_))] V rfl (Zw [_] Y call118 Y V (Kl hZ Ao7)) ?hk_3 Bp ?hl_3
  case hk_3=>
   rintro _ _ ⟨_,⟨s1,h1,rfl⟩,rfl⟩;refine ⟨Zk (Zk (Zk (AV))),?_⟩;obtain ⟨g1,c1,e1⟩:=h1.form;rw [hZl]at e1;subst e1;refine Zz (l:=[13,15])<|Ao5 [true,true,true] [(8,(_,_)),(3,(_,_)),(1,(_,_))] V rfl (Zw [_] Y call53 Y V (He hl Ao7)) ?hk_4 Bp ?hl_4
   case hk_4=>
    rintro _ _ ⟨_,⟨s2,h2,rfl⟩,rfl⟩;refine ⟨Zk (Zk (Zk (AV))),?_⟩;obtain ⟨g2,c2,rfl⟩:=h2.form;refine An9 14 V (BL (vs:=[(0,.agg #[I4 q.kd,I4 q.tb,I4 q.cl,I4 q.lo,I4 q.hi,I4 q.bq,I4 q.ot]),(3,I4 (base+(l.length:Int))),(4,I4 base),(5,.slice g1 L.length c1),(6,.slice g2 l.length c2)]) (cs:=#[I4 q.kd,I4 q.tb,I4 q.cl,I4 q.lo,I4 q.hi,I4 q.bq,I4 q.ot,.slice none 0 0,I4 0,.bool false,I4 0,I4 (base+(l.length:Int)),I4 base,.slice g1 L.length c1,.slice g2 l.length c2]) Y (AY (pl:=#[(0,7),(7,3),(10,1),(11,1),(12,1),(13,1),(14,1)]) AY8 AY4 (fun _=>by kernel_rfl) Ao8))<|Yz 15 0 65535 [8,3,1] [true,true,true] [(8,(_,_)),(3,(_,_)),(1,(_,_))] V Y V rfl V rfl (Al AY8 #[_,_,_,_,_,_,_,_,_,_,_,_,_,_,_]) ?_;rintro _ _ ⟨ba,rfl,rfl⟩;refine ⟨Zk (Zk (Zk (AV))),?_⟩;refine Yw 16 131071 V (Xw Ab5 #[I4 q.kd,I4 q.tb,I4 q.cl,I4 q.lo,I4 q.hi,I4 q.bq,I4 q.ot,.slice none 0 0,I4 0,.bool false,I4 0,I4 (base+(l.length:Int)),I4 base,.slice g1 L.length c1,.slice g2 l.length c2]) ?_;rintro _ _ ⟨rfl,rfl⟩;refine Ag<|Zn [8,1,2,4,6] ?_;refine Bi (e':=[(8,_)]) (by exact ⟨ba,g1,c1,s1,g2,c2,s2,⟨h1,h2⟩,V,V⟩)
   refine Ao5 [true,true,true] [(8,(_,_)),(3,(_,_)),(1,(_,_))] V rfl (Al AY8 #[_,_,_,_,_,_,_,_,_,_,_,_,_,_,_]) ?hk_8 (fun _ _ h=>h.elim) ?hl_8
   case hk_8=>
    rintro _ _ ⟨ba,rfl,rfl⟩;refine ⟨Zk (Zk (Zk (AV))),?_⟩;refine Zz (l:=[13])<|Ao5 [true,true,true] [(8,(_,_)),(3,(_,_)),(1,(_,_))] V rfl (Zw [_] Y call53 Y V (He hl Ao7)) ?hk_9 Bp ?hl_9
    case hk_9=>
     rintro _ _ ⟨_,⟨s2,h2,rfl⟩,rfl⟩;refine ⟨Zk (Zk (Zk (AV))),?_⟩;obtain ⟨g2,c2,rfl⟩:=h2.form;refine An9 14 V (BL (vs:=[(0,.agg #[I4 q.kd,I4 q.tb,I4 q.cl,I4 q.lo,I4 q.hi,I4 q.bq,I4 q.ot]),(3,I4 (base+(l.length:Int))),(4,I4 base),(5,.slice g1 L.length c1),(6,.slice g2 l.length c2)]) (cs:=#[I4 q.kd,I4 q.tb,I4 q.cl,I4 q.lo,I4 q.hi,I4 q.bq,I4 q.ot,.slice none 0 0,I4 0,.bool false,I4 0,I4 (base+(l.length:Int)),I4 base,.slice g1 L.length c1,.slice g2 l.length c2]) Y (AY (pl:=#[(0,7),(7,3),(10,1),(11,1),(12,1),(13,1),(14,1)]) AY8 AY4 (fun _=>by kernel_rfl) Ao8))<|Yw 16 131071 V (Xw Ab5 #[I4 q.kd,I4 q.tb,I4 q.cl,I4 q.lo,I4 q.hi,I4 q.bq,I4 q.ot,.slice none 0 0,I4 0,.bool false,I4 0,I4 (base+(l.length:Int)),I4 base,.slice g1 L.length c1,.slice g2 l.length c2]) ?_;rintro _ _ ⟨rfl,rfl⟩;refine Ag<|Zn [8,1,2,4,6] ?_;refine Bi (e':=[(8,_)]) (by exact ⟨ba,g1,c1,s1,g2,c2,s2,⟨h1,h2⟩,V,V⟩)
    exact Ae
   exact Ae
  refine Ao5 [true,true,true,true] [(10,(_,_)),(8,(_,_)),(3,(_,_)),(1,(_,_))] V rfl (Al AY8 #[_,_,_,_,_,_,_,_,_,_,_,_,_,_,_]) ?hk_12 (fun _ _ h=>h.elim) ?hl_12
  case hk_12=>
   rintro _ _ ⟨ba,rfl,rfl⟩;refine ⟨Zk (Zk (Zk (Zk (AV)))),?_⟩;refine Zz (l:=[11])<|Ao5 [false,true,true,true] [(8,(_,_)),(3,(_,_)),(1,(_,_))] V rfl (Zw [_] Y call118 Y V (Kl hZ Ao7)) ?hk_13 Bp ?hl_13
   case hk_13=>
    rintro _ _ ⟨_,⟨s1,h1,rfl⟩,rfl⟩;refine ⟨Zk (Zk (Zk (AV))),?_⟩;obtain ⟨g1,c1,e1⟩:=h1.form;rw [hZl]at e1;subst e1;refine Zz (l:=[13])<|Ao5 [true,true,true] [(8,(_,_)),(3,(_,_)),(1,(_,_))] V rfl (Zw [_] Y call53 Y V (He hl Ao7)) ?hk_14 Bp ?hl_14
    case hk_14=>
     rintro _ _ ⟨_,⟨s2,h2,rfl⟩,rfl⟩;refine ⟨Zk (Zk (Zk (AV))),?_⟩;obtain ⟨g2,c2,rfl⟩:=h2.form;refine An9 14 V (BL (vs:=[(0,.agg #[I4 q.kd,I4 q.tb,I4 q.cl,I4 q.lo,I4 q.hi,I4 q.bq,I4 q.ot]),(3,I4 (base+(l.length:Int))),(4,I4 base),(5,.slice g1 L.length c1),(6,.slice g2 l.length c2)]) (cs:=#[I4 q.kd,I4 q.tb,I4 q.cl,I4 q.lo,I4 q.hi,I4 q.bq,I4 q.ot,.slice none 0 0,I4 0,.bool false,I4 0,I4 (base+(l.length:Int)),I4 base,.slice g1 L.length c1,.slice g2 l.length c2]) Y (AY (pl:=#[(0,7),(7,3),(10,1),(11,1),(12,1),(13,1),(14,1)]) AY8 AY4 (fun _=>by kernel_rfl) Ao8))<|Yw 16 131071 V (Xw Ab5 #[I4 q.kd,I4 q.tb,I4 q.cl,I4 q.lo,I4 q.hi,I4 q.bq,I4 q.ot,.slice none 0 0,I4 0,.bool false,I4 0,I4 (base+(l.length:Int)),I4 base,.slice g1 L.length c1,.slice g2 l.length c2]) ?_;rintro _ _ ⟨rfl,rfl⟩;refine Ag<|Zn [8,1,2,4,6] ?_;refine Bi (e':=[(8,_)]) (by exact ⟨ba,g1,c1,s1,g2,c2,s2,⟨h1,h2⟩,V,V⟩)
    exact Ae
   exact Ae
  exact Ae
 rintro _ _ ⟨ba,g1,c1,s1,g2,c2,s2,⟨h1,h2⟩,rfl,rfl⟩;refine Zq<|Zq<|Zg<|Zh 0 AV7 V rfl AV8 Y<|Zo Wh (AA (cs:=#[_,_,_,_,_,_,_]) AX9 AV8 Y (by(simp;done)) Ap1) ?_;refine Zo Wh (AA (cs:=#[_,_,_]) AV6 AU3 Y (by(simp;done)) Ap1) ?_;refine Zh 8 AV7 V rfl AU1 Y<|Zl AU2 Y ?_;refine Zm Y<|Zc [_,_,_,_] Y call91 Y V (Py q hq base Ao7 hl Ao7 hcs hU0 Ao7 hrv) ?_;rintro _ _ ⟨_,⟨rv3,s3,rfl,h3,rfl⟩,rfl⟩;obtain ⟨g3,c3,rfl⟩:=h3.form;refine Zm Y<|Zd Y rfl<|Zd Y rfl<|Zd Y rfl<|Zh 7 AY4 rfl rfl AU3 Y<|Xe (BK AU3 Y Y Ap9 Wu (by exact (rfl:_=(#[I4 q.kd,I4 q.tb,I4 q.cl,I4 q.lo,I4 q.hi,I4 q.bq,I4 q.ot,.slice g3 (Av q r base l).1.rows.length c3,I4 (Av q r base l).1.val,.bool (Av q r base l).1.fnd,I4 0,I4 (base+(l.length:Int)),I4 base,.slice g1 L.length c1,.slice g2 l.length c2]:Array Value))) Ap3 (by(simp;done)) (by exact BF _)) ?_;refine Zh 10 AY4 V rfl AU1 Y<|Xe (Zs AU1 Y Y V (hc:=by exact (V:_=(#[I4 q.kd,I4 q.tb,I4 q.cl,I4 q.lo,I4 q.hi,I4 q.bq,I4 q.ot,.slice g3 (Av q r base l).1.rows.length c3,I4 (Av q r base l).1.val,.bool (Av q r base l).1.fnd,I4 (Av q r base l).2.1,I4 (base+(l.length:Int)),I4 base,.slice g1 L.length c1,.slice g2 l.length c2]:Array Value))) (hi:=by(simp;done))) ?_;refine Za Y<|Z0<|Zn [4,7,8] ?_;refine Zx<|Zq<|Zg<|Zm Y<|Zv (Br Y)<|Z0<|Zx<|AR Y (fun hb3=>?_) (fun hb3=>?_)
 ·
  have hno:(Av q r base l).2.2=false:=by simpa using hb3
  refine Zq<|Zg<|Zv (BL (vs:=[]) (cs:=#[_,_,_,_,_,_,_,_,_,_,_,_,_,_,_]) Y (AY (pl:=#[(0,7),(7,3),(10,1),(11,1),(12,1),(13,1),(14,1)]) AY8 AY4 (fun _=>by kernel_rfl) rfl))<|Xe (BK Ab5 Y Y Ap9 Wu (by exact Dr rfl) Ap3 Ao9 (by exact BF _)) ?_;refine Za Y<|Z0<|Zx<|AC<|Zt<|Bu rfl results60 Y Wh (Ap isAgg55 Ab5 Wn (BD rfl)) Y (by exact .inr ⟨by rw [Pm hr Ao7,XL hno];rfl,rfl,rfl⟩)
 have hyes:(Av q r base l).2.2=true:=by simpa using hb3
 refine AJ<|Zx<|Zq ?_;have hzok:∀z∈Z,z.ok M:=fun z hz=>by obtain ⟨i,hi⟩:=AA1 hz;exact (hzg i z hi).1
 have hrok:∀x∈l,Ct M (.slice x.q x.cs.length x.cap) x.cs:=fun x hx=>by obtain ⟨i,hi⟩:=AA1 hx;obtain ⟨_,_,_,_,hg9⟩:=hl;exact (hg9 i x hi).1
 have hra:=LF hyes;have h3l:=Ew h3
 have h3m:=Lp h3;refine Zg<|Zo Wh (AA (cs:=#[_,_,_,_,_,_,_,_,_,_,_,_,_,_,_]) isAgg55 Ab5 Y (by(simp;done)) Ap1) ?_;refine Xe (BK Ab5 Y Y Ap9 Wu (by exact Dr rfl) Ap3 Ao9 (by exact BF _)) ?_;refine Za Y<|Z0<|Zx<|AC<|Bu rfl results60 Y Wh (Ap isAgg55 Ab5 Wn (BD rfl)) Y (by exact .inl ⟨⟨⟨q,(Av q r base l).1,(Av q r base l).2.1,base+(l.length:Int),base,L,l⟩,g3,c3,g1,c1,g2,c2⟩,s3,s1,s2,by rw [Pm hr Ao7,hra];rfl,⟨(D7 h3 h3m).mono (fun c hc=>zR _ hc),⟨Z,(VD h1 Ao7 hzok).mono (fun c hc=>by rcases zJ.1 hc with h9|h9;exact zZ _ (zR _ h9);exact zZ _ (zZ _ (zZ _ h9))),hZx⟩,LG (Ji h2 (by show l.length<=maxLen;omega) hrok) (fun c hc=>zZ _ (zZ _ hc))⟩,rfl,rfl⟩)
theorem uY(q:QM)(te base:Int)(hb:-1000000000000<=base/\base<=1000000000000){pg:Option Addr}{cg:Nat}(hL:Fg M (.slice pg L.length cg) L)(hLl:L.length<=1000000)(hr:ED q L=some r){lv:Value}(hl:EA M lv l)(hcs:∀x∈l,x.cs.length<=1000):BR Tryz.prog 60 #[.agg #[I4 q.kd,I4 q.tb,I4 q.cl,I4 q.lo,I4 q.hi,I4 q.bq,I4 q.ot,I4 te,I4 base,.slice pg L.length cg],lv] [M] (fun w H'=>∃(z:U1) (s:List A8) (b:Bool),((b=true/\Jb q base L l=some z.a/\z.ok (s++M))\/(b=false/\Jb q base L l=none))/\w= .tuple #[.agg #[I4 z.a.q.kd,I4 z.a.q.tb,I4 z.a.q.cl,I4 z.a.q.lo,I4 z.a.q.hi,I4 z.a.q.bq,I4 z.a.q.ot,.slice z.rp z.a.res.rows.length z.rc,I4 z.a.res.val,.bool z.a.res.fnd,I4 z.a.since,I4 z.a.until_,I4 z.a.base,.slice z.gp z.a.ranges.length z.gc,.slice z.cp z.a.recs.length z.cc],.bool b]/\H'=[s,M]):=by
 refine GY (qH q te base hb hL hLl hr hl hcs) V ?_;rintro w H' (⟨z,s3,s1,s2,h1,h2,rfl,rfl⟩|⟨h1,rfl,rfl⟩)
 · exact ⟨_,⟨z,s3++(s1++s2),true,.inl ⟨rfl,h1,by simpa only [zM]using h2⟩,rfl,rfl⟩,by simp⟩
 · exact ⟨_,⟨⟨⟨⟨0,0,0,0,0,0,0⟩,Bw.none,0,0,0,[],[]⟩,none,0,none,0,none,0⟩,[],false,.inr ⟨rfl,h1⟩,rfl,rfl⟩,by simp⟩
end Go.Proofs.YteaiajghbkenoaaGreatDoor
