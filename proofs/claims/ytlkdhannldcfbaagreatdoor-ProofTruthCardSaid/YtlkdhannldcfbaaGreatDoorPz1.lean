/- The reference of layer 10: Path, Computed. -/
import Derived.Test.YtlkdhannldcfbaaGreatDoorTr26
import Derived.Stop.Asserts
set_option linter.unusedVariables false
set_option linter.unusedSimpArgs false
namespace Go.Proofs.YtlkdhannldcfbaaGreatDoor
open Go.Proofs.Tryz
open Go Go.RowKit Gw
set_option maxRecDepth 100000
attribute [local irreducible] Gw.At Gw.Nx Gw.Ops
theorem Yh(s:Bs)(n i:Nat):EC s n i []=[0::s]:=rfl
theorem Sk{s:Bs}{n i:Nat}(h:n<=1)(rp:List Bs):EC s n i rp=[0::s]:=by
 cases rp with
 |nil=>rfl
 |cons x rp=>rw [EC,B0 h]
theorem Lj{s x:Bs}{n i:Nat}(h:2<=n)(hi:i<BV n)(rp:List Bs):EC s n i (x::rp)=EC s (BV n) i rp++[1::(sha ((EC s (BV n) i rp).getLastD [])++x)]:=by
 rw [EC,As A0,B0 hi]
theorem KF{s x:Bs}{n i:Nat}(h:2<=n)(hi:¬i<BV n)(rp:List Bs):EC s n i (x::rp)=EC s (n -BV n) (i -BV n) rp++[1::(x++sha ((EC s (n -BV n) (i -BV n) rp).getLastD []))]:=by
 rw [EC,As A0,As hi]
theorem Kt:∀(rp:List Bs) (s:Bs) (n i:Nat),0<(EC s n i rp).length/\(EC s n i rp).length<=rp.length+1
 |[],s,n,i=>by rw [Yh];simp
 |x::rp,s,n,i=>by
  by_cases h:n<=1
  · rw [Sk h];simp
  · by_cases hi:i<BV n
    · have:=Kt rp s (BV n) i
      rw [Lj A0 hi,zq,FF,D3];omega
    · have:=Kt rp s (n -BV n) (i -BV n)
      rw [KF A0 hi,zq,FF,D3];omega
theorem P8:∀(rp:List Bs) (s:Bs) (n i m:Nat),s.length+1<=m->(∀x∈rp,x.length+33<=m)->∀y∈EC s n i rp,y.length<=m
 |[],s,n,i,m,h1,h2,y,hy=>by
  rw [Yh,D0]at hy;subst hy;rw [D3];exact h1
 |x::rp,s,n,i,m,h1,h2,y,hy=>by
  have hx:=h2 x B3;have g:∀z∈rp,z.length+33<=m:=fun z hz=>h2 z (HQ _ hz)
  by_cases h:n<=1
  · rw [Sk h,D0]at hy
    subst hy;rw [D3];exact h1
  · by_cases hi:i<BV n
    · rw [Lj A0 hi,DM,D0]at hy
      rcases hy with hy|hy
      · exact P8 rp s _ _ m h1 g y hy
      · subst hy;rw [D3,zq,Es];omega
    · rw [KF A0 hi,DM,D0]at hy
      rcases hy with hy|hy
      · exact P8 rp s _ _ m h1 g y hy
      · subst hy;rw [D3,zq,Es];omega
theorem ZA{L:List Bs}(h:0<L.length):L[L.length -1]?=some (L.getLastD []):=by
 rw [<-List.getLast?_eq_getElem?];cases L with
 |nil=>simp at h
 |cons x L=>rw [List.getLastD_eq_getLast?];simp [List.getLast?_cons]
theorem nU{l:List Bs}{x:Bs}{m:Nat}(g:l.length=m+1)(h:l[m]?=some x):l.reverse=x::(l.take m).reverse:=by
 rw [<-Sa h,<-g,G0]
theorem Nh(m:Nat)(e:Bs)(IH:∀{M:List AU} {v:A4} {ls:List Bs} (n i:Nat),ls.length<m->DK M v ls->ls.length<=1000000->(∀s∈ls,s.length<=140737488354000)->n<=1000000->i<=1000000->Bz prog 94 #[.string (str e),I4 (n:Int),I4 (i:Int),v] [M] (fun r H'=>∃so,BZ 1 9 r (EC e n i ls.reverse).length ((EC e n i ls.reverse).map Ci) so/\H'=[so,M])){M:List AU}{v:A4}{ls:List Bs}(n i:Nat)(l8:ls.length=m)(hv:DK M v ls)(lv:ls.length<=1000000)(hs:∀s∈ls,s.length<=140737488354000)(he:e.length<=140737488354000)(hn:n<=1000000)(gy:i<=1000000):Bz prog 94 #[.string (str e),I4 (n:Int),I4 (i:Int),v] [M] (fun r H'=>∃so,BZ 1 9 r (EC e n i ls.reverse).length ((EC e n i ls.reverse).map Ci) so/\H'=[so,M]):=by
 have l9:=mL;obtain ⟨p,cap,rfl,hl,hg⟩:=id hv;refine Se func94 ntmps94 [0,1,2,3] ?_;intro u R;refine A1<|A3 Y<|Zq<|A1<|Zm Y<|Zv (L6 (n:=1) Y Y)<|Zm Y<|Ai (t:=16) Y V (fun h0=>?_) (fun h0=>?_);·
  have O:EC e n i ls.reverse=[0::e]:=Sk A0 _;refine A7 Y rfl<|A7 Y rfl<|A7 Y rfl<|Zv (AR Y Y)<|AD<|CQ Y<|A1<|Zm Y<|Ap (CY Y Y (by first|(show 1+_<=_;rw [BO];omega)))<|Ze (Af (vs:=[_]) (cs:=[_]) Bk CH HR Y rfl rfl rfl rfl rfl)<|AF fun g1=>A3 Y<|AA<|Zt<|AC rfl results94 Y (by exact ⟨_,by rw [O];exact BH (EX 1 9 g1 1 [.string (str [0]++str e)] rfl AK) rfl (by rw [CZ];rfl),rfl⟩)
 refine Zf Y Y<|Yg (AP Bk Y)<|Yg (Bb (n:=0) Y Y)<|Zv (AL Y Y)<|AD<|Ak Y (fun h1=>?_) (fun h1=>?_);·
  have O:EC e n i ls.reverse=[0::e]:=by rw [Lq h1];rfl
  refine A1<|Zm Y<|Ap (CY Y Y (by first|(show 1+_<=_;rw [BO];omega)))<|Ze (Af (vs:=[_]) (cs:=[_]) Bk CH HR Y rfl rfl rfl rfl rfl)<|AF fun g1=>A3 Y<|AA<|Zt<|AC rfl results94 Y (by exact ⟨_,by rw [O];exact BH (EX 1 9 g1 1 [.string (str [0]++str e)] rfl AK) rfl (by rw [CZ];rfl),rfl⟩)
 have Z:2<=n:=by omega
 have kv:=FK Z;have kz:=En n
 obtain ⟨x,hx⟩:∃x,ls[ls.length -1]?=some x:=⟨_,zn A0⟩;have mR:=hs x (Cd hx)
 have K:=nU (show ls.length=ls.length -1+1 by omega) hx;obtain ⟨g,off,cur,T,zz,rfl,gm,bf⟩:=hg _ x hx;have cu:=hv.take (ls.length -1) A0
 refine AB<|Zx<|A1<|Zm Y<|Xr [_] Y call122 Y V (X3 n Z A0) ?_;refine A3 Y<|A1<|Zm Y<|Zm Y<|Zv (AP Bk Y)<|Yb (n:=1) Y Y ?_;refine Ap (BP Bk CH Y Y A0)<|Ca (cs:=[(g,.cells cur T zz)]) (by simp [gm]) (Bj Fm Y (by exact bf)) V rfl ?_;refine AH Y<|Zn [0,1,2,3,9,10] ?_;refine Zx<|A1<|Zm Y<|Zm Y<|Zv (AP Bk Y)<|Yb (n:=1) Y Y ?_;refine Ap (Bc Bk CH Y Y A0)<|A3 Y<|Zq<|A1<|Zm Y<|Zm Y<|Zv (Au Y Y)<|AD<|Ak Y (fun I=>?_) (fun I=>?_);·
  refine A1<|Zm Y<|Zm Y<|Zm Y<|Zm Y<|Zc [_,_,_,_] Y call94 Y rfl (IH (ls:=ls.take (ls.length -1)) (BV n) (i) (by rw [zy];omega) (by exact cu) (by rw [zy];omega) (fun s h=>hs s (HI h)) A0 A0) ?_;rintro _ _ ⟨_,⟨sp,G,rfl⟩,rfl⟩;obtain ⟨qp,cp,rfl⟩:=G.form;have E:=Kt (ls.take (ls.length -1)).reverse e (BV n) (i)
  rw [SO,zy]at E;have J:=ZA E.1
  have ek:=P8 (ls.take (ls.length -1)).reverse e (BV n) (i) 140737488354033 A0 (fun x h=>by have:=hs x (HI (Wa.1 h));omega) _ (Cd J);obtain ⟨gx,af,ax,zx,W,rfl,bn,U⟩:=Iq G E.1;injection W with O e2 e3
  subst O e3;have X:=U _ (Ci _) (by rw [FG,J];rfl)
  refine AH Y<|Zn [10,12] ?_;refine Zx<|A1<|Zm Y<|Zm Y<|Zm Y<|Zv (AP Bk Y) ?_
  (refine Ap (Bo (n:=1) Y Y ?_ ?_) ?_;(focus (first|omega|(show 1+_<=_;rw [BO,Es];omega)|(show(str [1]++str _).size+(str _).size<=_;rw [CZ,BO,BO,zq,Es];show 1+32+_<=_;omega)));(focus (first|omega|(show 1+_<=_;rw [BO,Es];omega)|(show(str [1]++str _).size+(str _).size<=_;rw [CZ,BO,BO,zq,Es];show 1+32+_<=_;omega))))
  refine Ap (BD Bk CH Y Y CT)<|Zl Fm Y (hv:=by exact X) ?_;refine Xr [_] Y call42 Y V (H7 _ A0) ?_;refine Ap (CY Y Y (by(show 1+_<=_;rw [BO,Es];omega)))<|Zm Y<|Ap (CY Y Y (by(show(str [1]++str _).size+(str _).size<=_;rw [CZ,BO,BO,zq,Es];show 1+32+_<=_;omega)))<|Ze (Af (vs:=[_]) (cs:=[_]) Bk CH HR Y rfl rfl rfl rfl rfl)<|AF fun g3=>Ze (Db (by_:=16) (sz:=1) (news:=[_]) Bk (V:Tryz.prog.info? 9=some Tryz.t9) V rfl V rfl Y G Y Wo Wh An V GF AK A0 A0) ?_;rintro _ _ ⟨gq,y,rfl⟩;obtain ⟨d9,cO,rfl⟩:=y.form;refine AH Y<|Zn [8] ?_;refine Zx<|AA<|Zt<|AC rfl results94 Y (by exact ⟨_,BH y (by rw [K,Lj Z I,zq];rfl) (by rw [K,Lj Z I,Dg,LL];unfold Ci;rw [show(⟨#[1]⟩:ByteArray)=str [1] from rfl,CZ,CZ];rfl),rfl⟩)
 refine AB<|Zx<|A1<|Zm Y<|Zm Y<|Zm Y<|Yb Y Y<|Zm Y<|Zm Y<|Yb Y Y<|Zm Y<|Zc [_,_,_,_] Y call94 Y rfl (IH (ls:=ls.take (ls.length -1)) (n -BV n) (i -BV n) (by rw [zy];omega) (by exact cu) (by rw [zy];omega) (fun s h=>hs s (HI h)) A0 A0) ?_;rintro _ _ ⟨_,⟨sp,G,rfl⟩,rfl⟩;obtain ⟨qp,cp,rfl⟩:=G.form;have E:=Kt (ls.take (ls.length -1)).reverse e (n -BV n) (i -BV n)
 rw [SO,zy]at E;have J:=ZA E.1
 have ek:=P8 (ls.take (ls.length -1)).reverse e (n -BV n) (i -BV n) 140737488354033 A0 (fun x h=>by have:=hs x (HI (Wa.1 h));omega) _ (Cd J);obtain ⟨gx,af,ax,zx,W,rfl,bn,U⟩:=Iq G E.1;injection W with O e2 e3
 subst O e3;have X:=U _ (Ci _) (by rw [FG,J];rfl)
 refine AH Y<|Zn [10,13] ?_;refine Zx<|A1<|Zm Y<|Zm Y<|Ap (CY Y Y (by(show 1+_<=_;rw [BO];omega)))<|Zm Y<|Zm Y<|Zv (AP Bk Y) ?_
 (refine Ap (Bo (n:=1) Y Y ?_ ?_) ?_;(focus (first|omega|(show 1+_<=_;rw [BO];omega)|(show(str [1]++str _).size+(str _).size<=_;rw [CZ,BO,BO,zq,Es];show 1+_+32<=_;omega)));(focus (first|omega|(show 1+_<=_;rw [BO];omega)|(show(str [1]++str _).size+(str _).size<=_;rw [CZ,BO,BO,zq,Es];show 1+_+32<=_;omega))))
 refine Ap (BD Bk CH Y Y CT)<|Zl Fm Y (hv:=by exact X) ?_;refine Xr [_] Y call42 Y V (H7 _ A0) ?_;refine Ap (CY Y Y (by(show(str [1]++str _).size+(str _).size<=_;rw [CZ,BO,BO,zq,Es];show 1+_+32<=_;omega)))<|Ze (Af (vs:=[_]) (cs:=[_]) Bk CH HR Y rfl rfl rfl rfl rfl)<|AF fun g3=>Ze (Db (by_:=16) (sz:=1) (news:=[_]) Bk (V:Tryz.prog.info? 9=some Tryz.t9) V rfl V rfl Y G Y Wo Wh An V GF AK A0 A0) ?_;rintro _ _ ⟨gq,y,rfl⟩;obtain ⟨d9,cO,rfl⟩:=y.form;refine AH Y<|Zn [8] ?_;refine Zx<|AA<|AC rfl results94 Y (by exact ⟨_,BH y (by rw [K,KF Z I,zq];rfl) (by rw [K,KF Z I,Dg,LL];unfold Ci;rw [show(⟨#[1]⟩:ByteArray)=str [1] from rfl,CZ,CZ];rfl),rfl⟩)
theorem YY(e:Bs):∀(m:Nat) {M:List AU} {v:A4} {ls:List Bs} (n i:Nat),ls.length<=m->DK M v ls->ls.length<=1000000->(∀s∈ls,s.length<=140737488354000)->e.length<=140737488354000->n<=1000000->i<=1000000->Bz prog 94 #[.string (str e),I4 (n:Int),I4 (i:Int),v] [M] (fun r H'=>∃K,BZ 1 9 r (EC e n i ls.reverse).length ((EC e n i ls.reverse).map Ci) K/\H'=[K,M])
 |0,_,_,ls,n,i,h,hv,hm,hs,he,hn,hi=>Nh ls.length e (fun _ _ J=>absurd J A0) n i rfl hv hm hs he hn hi
 |m+1,_,_,ls,n,i,h,hv,hm,hs,he,hn,hi=>Nh ls.length e (fun U O J I y G E g=>YY e m U O A0 I y G he E g) n i rfl hv hm hs he hn hi
theorem jU(e:Bs){M:List AU}{v:A4}{ls:List Bs}(n i:Int)(hv:DK M v ls)(y:ls.length<=1000000)(E:∀s∈ls,s.length<=140737488354000)(m:e.length<=140737488354000)(hn:0<=n/\n<=1000000)(hi:0<=i/\i<=1000000):Bz prog 94 #[.string (str e),I4 n,I4 i,v] [M] (fun r H'=>∃g,BZ 1 9 r (EC e n.toNat i.toNat ls.reverse).length ((EC e n.toNat i.toNat ls.reverse).map Ci) g/\H'=[g,M]):=by
 obtain ⟨n,rfl⟩:=Ml hn.1;obtain ⟨i,rfl⟩:=Ml hi.1;exact YY e ls.length n i (B8 _) hv y E m A0 A0
def Qk(x:RP)(k:Nat):List Bs:=(Cq x.roots++[[]])++(List.range k).flatMap (R5 x)
theorem Qi(x:RP):Qk x 0=Cq x.roots++[[]]:=by unfold Qk;simp
theorem Qj(x:RP)(k:Nat):Qk x (k+1)=Qk x k++R5 x k:=by
 unfold Qk;rw [cQ,Ly,D2];simp
theorem Pj{x:RP}(g:∀l∈x.paths,l.length<=1000000):∀k,(Qk x k).length<=2*x.roots.length+2+1000001*k
 |0=>by
  have:=(Fa _ x.roots (B8 _)).1;rw [Qi,zq,FF];omega
 |k+1=>by
  have y:=Pj g k;rw [Qj,zq];have:(R5 x k).length<=1000001:=by
   unfold R5;split
   · rename_i r pf hr hpf
     have m:=(Kt pf.reverse (Ep r) x.ct.toNat (x.fi.toNat+k)).2;have h2:=g pf (Cd hpf)
     rw [SO]at m;omega
   · simp
  omega
theorem Un{root:Bs}{x:RP}(h:Ke root x):∀l∈x.paths,∀s∈l,s.length=32:=by
 intro l G;obtain ⟨k,E⟩:=H4 G;have m:=(zt.1 E).1
 have hn:=h.comp.n;have I:=h.comp.fi
 have y:=h.np;obtain ⟨d,_,_,_,hv⟩:=h.sum;have g:=hv A0 k _ l (zn (by rw [<-y];exact m)) E
 unfold RU at g;rw [Fo,N5]at g;exact gY g.1
theorem aP{x:RP}(hc:Fp x)(m:∀s∈x.roots,s.length<=1000)(g:∀l∈x.paths,∀s∈l,s.length=32):∀s∈CV x,s.length<=140737488354000:=by
 intro s E;rcases DM.1 E with h|h
 · rcases DM.1 h with h|h
   · have:=LJ _ x.roots 1001 (B8 _) AK (fun y hy=>by have:=m y hy;omega) s h
     omega
   · rw [D0.1 h];simp
 · obtain ⟨k,_,h⟩:=N6.1 h
   unfold R5 at h;split at h
   · rename_i r pf hr hpf
     have G:=M6 (hc.all k r hr).1.1;have:=P8 pf.reverse (Ep r) x.ct.toNat (x.fi.toNat+k) 1000 A0 (fun y hy=>by have:=g pf (Cd hpf) y (Wa.1 hy);omega) s h
     omega
   · simp at h
theorem XQ{x:RP}(g:∀l∈x.paths,l.length<=1000000)(m:x.roots.length<=1000)(hn:x.rows.length<=2000):(CV x).length<=10000000000:=by
 have:=Pj g (min x.rows.length x.paths.length);unfold Qk at this;unfold CV;omega
theorem X4{M:List AU}{v:A4}{x:RP}(hv:Ql M v x)(hc:Fp x)(qA:x.roots.length<=1000)(l8:∀s∈x.roots,s.length<=1000)(hp:∀l∈x.paths,l.length<=1000000)(kz:∀l∈x.paths,∀s∈l,s.length=32):Bz prog 38 #[v] [M] (fun r H'=>∃U,BZ 1 9 r (CV x).length ((CV x).map Ci) U/\H'=[U,M]):=by
 have qz:=mL;obtain ⟨vr,vp,vt,rfl,hR,hP,hT⟩:=id hv;obtain ⟨q1,c1,rfl,qd,cu⟩:=id hR;obtain ⟨q2,c2,rfl,qg,cO⟩:=id hP;obtain ⟨q3,c3,rfl,qx,qb⟩:=id hT;have q9:=hc.n
 have q8:=hc.fi;have pz:=hc.ct
 have r9:x.rows.length<=2000:=by omega
 refine Se func38 ntmps38 [0] ?_;intro u R;refine A1<|Ze (Bx #[_,_,_,_,_,_,_,_,_])<|AF fun pb=>A3 Y<|A1<|Zh 8 C1 V rfl HM Y<|Zl I0 Y ?_;refine Zc [_] Y call92 Y V (Lg _ (B8 _) hT A0 (fun s h=>by have:=l8 s h;omega)) ?_;rintro _ _ ⟨_,⟨sh,ax,rfl⟩,rfl⟩;have qc:=(Fa _ x.roots (B8 _)).1
 obtain ⟨qh,ch,rfl⟩:=ax.form;refine A3 Y<|A1<|Zm Y<|Ze (Af (vs:=[_]) (cs:=[_]) Bk CH HR Y V rfl V rfl V)<|AF fun g1=>Ze (BR (by_:=16) (sz:=1) Bk (V:Tryz.prog.info? 9=some Tryz.t9) V rfl V rfl Y (ax) Y (Dy 1 g1 1 1 9 (0,0) [Ci []] V) Wo Wo (by simp [Ci,Value.oneCell']) A0 A0) ?_;rintro _ _ ⟨l9,y,rfl⟩;replace y:=BH (n':=(Qk x 0).length) (xs':=(Qk x 0).map Ci) y (by rw [Qi,zq];rfl) (by rw [Qi,Dg];rfl);obtain ⟨p9,o9,rfl⟩:=y.form;refine A3 Y<|Zq<|A1<|A3 Y<|AX<|Zb [3,4,1] ?_;refine BB (e0:=[(3,_),(4,_)]) (fun m e H=>∃(k:Nat) (vo:A4) (U:List AU),m=x.rows.length -k/\((k<=x.rows.length/\k<=x.paths.length)/\BZ 1 9 vo (Qk x k).length ((Qk x k).map Ci) U)/\e=[(3,vo),(4,I4 (k:Int))]/\H=[U]) (by exact ⟨0,_,l9,V,⟨⟨C2 _,C2 _⟩,y⟩,V,V⟩) Wp ?_;rintro _ _ _ ⟨k,vo,U,rfl,⟨hk,I⟩,rfl,rfl⟩;obtain ⟨qo,co,rfl⟩:=I.form;have pq:=Pj hp k
 refine Zq<|A1<|Zm Y<|Zh 6 C1 V rfl C4 Y<|Zl DO Y ?_;refine Zv (AP B4 Y)<|Zv (Au Y Y)<|Zm Y<|Ai (t:=18) Y V (fun d9=>?_) (fun d9=>?_);·
  refine Zf Y Y<|Yf 7 C1 V rfl Ln Y<|Yl W0 Y ?_;refine Yg (AP Lk Y)<|Yg (Au Y Y)<|Zv (AR Y Y)<|AD<|Ak Y (fun ek=>?_) (fun ek=>?_);·
   obtain ⟨r,hr⟩:∃r,x.rows[k]?=some r:=⟨_,zn A0⟩;obtain ⟨pf,G⟩:∃r,x.paths[k]?=some r:=⟨_,zn A0⟩;obtain ⟨g,off,cur,T,zz,rfl,gq,mR,af⟩:=cu k r hr;obtain ⟨qp,cp,bn,g2,o8,X,T2,lv,rfl,gm,Z⟩:=cO k pf G;have K:=(hc.all k r hr).1.1
   have qa:=M6 K;have J:=Cd G
   have kv:=Kt pf.reverse (Ep r) x.ct.toNat (x.fi.toNat+k);rw [SO]at kv;have gy:=hp pf J
   refine AB<|Zx<|Zq<|AX<|A1<|Zh 6 C1 V rfl C4 Y<|Zl DO Y ?_;refine Zm Y<|Ap (AO B4 Ax Y Y CT)<|Ca (cs:=[(g,.cells cur T zz)]) (by simp [gq]) (A9 (cs:=#[I4 r.t,I4 r.k,I4 r.v.a,I4 r.v.b,I4 r.v.c]) C7 Ax Y A0 af) rfl rfl ?_;refine Xr [_] Y call93 Y V (VI r K) ?_;refine Zm Y<|Zd Y V<|Zd Y V<|Za Y<|AH Y<|Zn [1,3,4,5] ?_;refine Zx<|BJ (n:=16) (0::0::0::4::0::16::0::112::0::256::0::1792::3840::8190::16383::32767::[]) 24576 AG AG V<|A2 0 V (AJ Y)<|A2 1 V (AJ Y)<|A2 2 V (AV (off:=4) C1 V rfl A5 Y)<|B2 3 V AE Y ?_;refine A2 4 V (AV (off:=5) C1 V rfl A5 Y)<|B2 5 V AE Y ?_;refine A2 6 V (AJ Y) ?_
   (refine Bq (D':=255) 7 (EU Y Y (IntWalk.i64_in _ ?_)) ?_;(focus (omega)))
   refine A2 8 V (AV (off:=7) C1 V rfl Ln Y)<|B2 9 V W0 Y ?_;refine A2 10 rfl (AJ Y)<|A2 11 rfl (BP Lk HM Y Y CT)<|Gf (b:=g2) (x:= .cells X T2 lv) (D':=8191) 12 rfl rfl rfl (by simp [gm]) (Bj I0 Y (by exact Z)) ?_;refine Zz (l:=[13])<|BE [false,false,false,false] [] rfl rfl (Zw [_,_,_,_] Y call94 Y rfl ((by have h9:=jU (Ep r) x.ct (x.fi+(k:Int)) bn gy (fun s h=>by have:=kz pf J s h;omega) A0 A0 A0;rw [show(x.fi+(k:Int)).toNat=x.fi.toNat+k by omega]at h9;exact h9))) ?_ Co Ay;rintro _ _ ⟨_,⟨sp,bf,rfl⟩,rfl⟩;refine ⟨Ae,?_⟩;obtain ⟨qw,cw,rfl⟩:=bf.form;refine Yw 14 32767 V (BR (by_:=16) (sz:=1) Bk (V:Tryz.prog.info? 9=some Tryz.t9) V rfl V rfl Y (I) Y (Ig bf) Wo Wo (by exact Je _) A0 A0) ?_;rintro _ _ ⟨sj,O,rfl⟩;obtain ⟨pg,p8,rfl⟩:=O.form;refine A2 15 V (BF Y)<|Ao<|Zn [1,3,4] ?_;refine A8<|Zx<|Zg<|Zm Y<|Ya (n:=1) Y Y<|AH Y<|Zn [3,4,1] ?_;refine AZ (e':=[(3,_),(4,_)]) (by exact ⟨k+1,_,_,rfl,⟨by omega,BH O (by rw [Qj,Sl hr G,zq]) (by rw [Qj,Sl hr G,Dg])⟩,rfl,rfl⟩)
  refine Aw<|Zt<|Zt<|AQ<|Zx<|A1<|Zm Y<|AH Y<|Zn [2] ?_;refine Zx<|AA<|AC V results38 Y (by
   have W:min x.rows.length x.paths.length=k:=by omega
   have E:Qk x k=CV x:=by rw [<-W];rfl
   exact ⟨U,by rw [<-E];exact I,rfl⟩)
 refine A7 Y V<|A7 Y V<|A7 Y V<|A7 Y V<|A7 Y V<|Zv (AL Y Y)<|AD<|Dj Y<|Aw<|Zt<|Zt<|AQ<|Zx<|A1<|Zm Y<|AH Y<|Zn [2] ?_;refine Zx<|AA<|AC V results38 Y (by
  have W:min x.rows.length x.paths.length=k:=by omega
  have E:Qk x k=CV x:=by rw [<-W];rfl
  exact ⟨U,by rw [<-E];exact I,rfl⟩)
theorem Li:∀{a b:List Int} {x y:Bs},a.length=b.length->CW a++x=CW b++y->a=b/\x=y
 |[],[],x,y,_,h=>⟨rfl,by simpa [CW]using h⟩
 |n::a,m::b,x,y,hl,h=>by
  unfold CW at h;rw [HF,HF,D2,D2]at h;obtain ⟨g,h2⟩:=Js h;obtain ⟨E,G⟩:=Li (by simpa using hl) h2;exact ⟨by rw [g,E],G⟩
theorem rG{c d:Chg}(hc:c.ok)(X:d.ok){x y:Bs}(h:LQ c++x=LQ d++y):c=d/\x=y:=by
 obtain ⟨t,k,had,o,has,n⟩:=c;obtain ⟨t',k',g,o',m,n'⟩:=d;obtain ⟨_,_,J,K⟩:=hc;obtain ⟨_,_,M,O⟩:=X;unfold LQ at h;rw [D2,D2]at h;obtain ⟨E,h2⟩:=Li An h;injection E with h3 E
 injection E with h4 E
 injection E with h5 _
 simp only at h3 h4 J K M O;subst h3 h4;have U:had=g/\has=m:=by
  revert h5;unfold fl2 fl1;cases had<;>cases g<;>cases has<;>cases m<;>simp
 obtain ⟨rfl,rfl⟩:=U;obtain ⟨I,W⟩:=Li (by unfold vs2 vs1;cases had<;>cases has<;>rfl) h2;have Z:o=o':=by
  cases had with
  |false=>rw [J.resolve_left AK,M.resolve_left AK]
  |true=>
   have G:=congrArg (List.take 3) I;unfold vs2 vs1 at G;rw [V3.eq_iff];cases has<;>simpa using G
 have hn:n=n':=by
  cases has with
  |false=>rw [K.resolve_left AK,O.resolve_left AK]
  |true=>
   unfold vs2 at I;have G:=List.append_inj_right' I rfl
   rw [V3.eq_iff];simpa using G
 rw [Z,hn];exact ⟨V,W⟩
theorem Vz:∀{a b:List Chg} {x y:Bs},a.length=b.length->(∀c∈a,c.ok)->(∀c∈b,c.ok)->a.flatMap LQ++x=b.flatMap LQ++y->a=b/\x=y
 |[],[],x,y,_,_,_,h=>⟨rfl,by simpa using h⟩
 |c::a,d::b,x,y,hl,ha,hb,h=>by
  rw [HF,HF,D2,D2]at h;obtain ⟨g,h2⟩:=rG (ha c B3) (hb d B3) h;obtain ⟨m,E⟩:=Vz (by simpa using hl) (fun c hc=>ha c (by simp [hc])) (fun c hc=>hb c (by simp [hc])) h2;exact ⟨by rw [g,m],E⟩
theorem eT{p G:Int}{a b:List Chg}(J:E9 p a)(K:E9 G b)(h:Er p a=Er G b):p=G/\a=b:=by
 unfold Er at h;obtain ⟨g,h2⟩:=Li An h;injection g with h3 g
 injection g with h4 _
 have m:∀c∈a,c.ok:=fun c hc=>by obtain ⟨i,hi⟩:=H4 hc;exact J.all i c hi
 have E:∀c∈b,c.ok:=fun c hc=>by obtain ⟨i,hi⟩:=H4 hc;exact K.all i c hi
 obtain ⟨I,_⟩:=Vz (x:=[]) (y:=[]) A0 m E (by rw [h2]);exact ⟨h3,I⟩
def JH(h:Bs):List Bg->Bs
 |[]=>h
 |r::l=>JH (Jt h (Er r.p r.cs)) l
def CK(h:Bs):List Bg->List Bs
 |[]=>[]
 |r::l=>(2::(h++Er r.p r.cs))::CK (Jt h (Er r.p r.cs)) l
theorem Jy{st:Bs}:∀(l:List Bg) {h h':Ct},IB st h l=some h'->h'.ch=JH h.ch l/\h'.p=h.p+(l.length:Int)/\∀r∈l,E9 r.p r.cs
 |[],h,h',hw=>by
  injection hw with hw
  subst hw;exact ⟨V,by simp,fun r y=>by cases y⟩
 |r::l,h,h',hw=>by
  unfold IB at hw;split at hw
  · rename_i hn
    obtain ⟨g,h2,m⟩:=Jy l hw;refine ⟨g,?_,fun x hx=>?_⟩;· rw [h2,show(Gi h r st).p=r.p from rfl,hn.2.2.2,D3];push_cast;omega
    · rcases E4.1 hx with rfl|hx
      · exact hn.1
      · exact m x hx
  · cases hw
theorem Tz:∀(a b:List Bg) (h h':Bs),a.length=b.length->h.length=32->h'.length=32->(∀r∈a,E9 r.p r.cs)->(∀r∈b,E9 r.p r.cs)->JH h a=JH h' b->(h=h'/\a.map Bg.key=b.map Bg.key)\/NC (CK h a) (CK h' b)
 |[],[],h,h',_,_,_,_,_,he=> .inl ⟨he,rfl⟩
 |r::a,s::b,h,h',hl,h1,h2,ha,hb,he=>by
  rcases Tz a b _ _ (by simpa using hl) (Hg _ _) (Hg _ _) (fun x hx=>ha x (by simp [hx])) (fun x hx=>hb x (by simp [hx])) he with⟨m,y⟩|hc
  · by_cases g:(2::(h++Er r.p r.cs):Bs)=2::(h'++Er s.p s.cs)
    · injection g with _ g
      obtain ⟨E,G⟩:=List.append_inj g (by rw [h1,h2]);obtain ⟨I,J⟩:=eT (ha r B3) (hb s B3) G;exact .inl ⟨E,by rw [HJ,HJ,y];exact congrArg (·::_) (Prod.ext I J)⟩
    · exact .inr ⟨_,K0 ..,_,K0 ..,g,m⟩
  · exact .inr (hc.mono (fun x hx=>HQ _ hx) (fun x hx=>HQ _ hx))
theorem Pd:∀(l:List Bg) (n:Nat) (h:Bs),∀x∈CK h (l.take n),x∈CK h l
 |_,0,_,x,hx=>by rw [Hj]at hx;cases hx
 |[],n+1,_,x,hx=>by rw [List.take_nil]at hx;exact hx
 |r::l,n+1,h,x,hx=>by
  rw [eE]at hx;rcases E4.1 hx with rfl|hx
  · exact K0 ..
  · exact HQ _ (Pd l n _ x hx)
theorem YC{q:QM}{base:Int}:∀(a b:List Bg) (i:Nat) (st:CP×Int),a.map Bg.key=b.map Bg.key->Gr q base i st a=Gr q base i st b
 |[],[],_,_,_=>rfl
 |r::a,s::b,i,st,h=>by
  injection h with h1 h2
  have g:r.p=s.p:=congrArg Prod.fst h1;have m:r.cs=s.cs:=congrArg Prod.snd h1
  unfold Gr;rw [g,m];split;· exact YC a b _ _ h2
  · rfl
 |[],s::b,_,_,h=>by cases h
 |r::a,[],_,_,h=>by cases h
theorem Qv{rs:List AY}(E:BL rs)(hn:rs.length<=2000)(m:∀r∈rs,r.ok){q:QM}:∀(l:List AY) (L:List RP) (b:List AY×List RP),(∀x∈L,WQ rs x)->EB q l L=some b->b.1=l.flatMap fun r=>Cg rs q.ot 0 (Bh r q.bq) (Bh r q.bq)
 |[],L,b,_,h=>by
  injection h with h
  rw [<-h];rfl
 |r::l,L,b,hL,h=>by
  obtain ⟨a,c,G,h2,rfl⟩:=Iu h;obtain ⟨x,rfl,g,I,J⟩:=Ji G;have K:=Qv E hn m l a.2 c (fun y hy=>hL y (HQ _ hy)) h2
  have M:=U2 E hn m (hL x (K0 ..)) I;unfold RP.scan O8 at g;injection g with e1 g
  injection g with e2 g
  injection g with e3 e4
  rw [HF,J,M,K,e1,e2,e3,e4];rfl
theorem Y4{rs:List AY}(J:BL rs)(hn:rs.length<=2000)(m:∀r∈rs,r.ok){q:QM}{L:List RP}{r:CP}(hL:∀x∈L,WQ rs x)(h:Cz q L=some r):r=D5 rs q:=by
 obtain ⟨x,L2,rfl,I,g,E,hl,W⟩:=K5 h;have K:=U2 J hn m (hL x (K0 ..)) E
 unfold RP.scan MW at g;injection g with e1 g
 injection g with e2 g
 injection g with e3 e4
 rw [e1,e2,e3,e4]at K;have Z:(CX rs q).length<=100:=by rw [show CX rs q=Cg rs q.tb q.cl.toNat q.lo q.hi from rfl,<-K];exact hl
 rcases W with⟨M,_,rfl⟩|⟨M,o,ho,rfl⟩
 · rw [K,<-Vu I M,MO I]
 · have hr:=Qv J hn m _ _ _ (fun y hy=>hL y (HQ _ hy)) ho
   simp only at hr;rw [hr,K];have h8:=FY J hn m I Z
   obtain ⟨x9,L9,O,_,_,_,_,G⟩:=K5 h8;unfold Em at O;rw [B0 M]at O;injection O with e10 e11
   rcases G with⟨n7,_⟩|⟨_,o9,ho9,hev⟩
   · exact absurd M n7
   · obtain ⟨_,X⟩:=nN J hn m q I
     rw [<-e10,X]at ho9 hev;rw [<-e11]at ho9;have hk:=I.2.2.2
     have U:=O3 J hn m (q:=q) A0 (Cg rs q.tb q.cl.toNat q.lo q.hi);rw [show CX rs q=Cg rs q.tb q.cl.toNat q.lo q.hi from rfl,U]at ho9;injection ho9 with ho9
     injection ho9 with ho9 _
     rw [hev,ho9]
structure Rn(l:List Bg)(a b:Nat)(z:JX):Prop where
 base:z.base=(a:Int)
 end_:z.until_=(b:Int)
 lo:(a:Int)<=z.since
 hi:z.since<=(b:Int)
 q:BS z.q
 at_:∀p:Nat,z.since<=(p:Int)->p<=b->D5 (Bd (l.take p)) z.q=z.res
theorem tN{l:List Bg}(E:DN l)(d9:l.length<=20){a b:Nat}(ax:a<=b)(hb:b<=l.length){z:JX}(hc:Ee (Dr l a) (Dr l b) z):Rn l a b z\/NC (z.ranges.flatMap CV++CK (Dr l a).ch z.recs) (Kc (Bd (l.take a))++CK (Dr l a).ch (l.drop a)):=by
 obtain ⟨h1,h2,h3,h4,y,g,h6⟩:=hc;obtain ⟨K,Z,af⟩:=Fj E A0 a A0;obtain ⟨ek,bf,gm⟩:=Fj E A0 b hb;obtain ⟨w1,w2,w3⟩:=Jy _ h3.2.2;obtain ⟨v1,v2,v3⟩:=Jy _ (RA E A0 ax hb).2.2;obtain ⟨m,hn⟩:=E.rows a A0;have bn:=E.rowsOk a A0
 rcases Tz z.recs (FC l a b) _ _ A0 K.2.1 K.2.1 w3 v3 (by rw [<-w1,<-v1])with⟨_,hk⟩|hco
 · by_cases M:∀x∈z.ranges,WQ (Bd (l.take a)) x
   · left
     have W:z.base=(a:Int):=by rw [<-h1,Z]
     unfold EG at g;cases hst:Cz z.q z.ranges with
     |none=>rw [hst]at g;cases g
     |some r=>
      have hr:=Y4 m hn bn M hst;have hq:=(Og hst).1
      rw [hst,IF]at g;split at g
      · rw [hr,W,YC _ _ _ _ hk]at g
        cases hrun:Gr z.q (a:Int) 0 (D5 (Bd (l.take a)) z.q,(a:Int)) (FC l a b)with
        |none=>rw [hrun]at g;cases g
        |some st=>
         rw [hrun]at g;injection g with g
         obtain ⟨e1,e2⟩:=Q4 hq E (by omega:a<=l.length) (b -a) A0 st (V6 hrun);rw [show a+(b -a)=b by omega]at e1;have kv:=e2.le
         obtain ⟨_,J,_,_,G,_⟩:=h6;rw [<-g]at J G;simp only at J G;refine ⟨W,by rw [<-h2,bf],by omega,by omega,hq,fun p kz cu=>?_⟩;rw [G,e1];refine (aC E hq p b cu hb fun i r gq gy O x hx=>?_).symm;have I:=e2.no i r A0 A0 O
         rw [j4 (fun c hc=>by obtain ⟨j,hj⟩:=H4 hc;exact (E _ r O).1.ok.all j c hj)]at I;exact Bool.eq_false_iff.2 fun X=>by rw [ff]at I;exact I x hx X
      · cases g
   · right
     obtain ⟨x,hx⟩:=Classical.not_forall.1 M;obtain ⟨U,cO⟩:=Classical.not_imp.1 hx;have hv:=h4 x U
     rw [af]at hv;rcases mE hv with I|I
     · exact absurd I cO
     · exact I.mono (fun s m=>E3 _ (N6.2 ⟨x,U,m⟩)) (fun s m=>E3 _ m)
 · right
   refine hco.mono (fun s m=>DA _ m) (fun s m=>DA _ ?_);unfold FC at m;exact Pd _ _ _ s m
theorem UE{rs:List AY}{k:Nat}(m:k<rs.length)(g:AY):(Ac rs).take (k*5)++Ac [g]++(Ac rs).drop (k*5+(Ac [g]).length)=Ac (rs.set k g):=by
 rw [BG,show k*5+[g].length*5=(k+1)*5 by simp;omega,Du,DX,<-Bf,<-Bf,dq,B0 m,D2];rfl
theorem Wm{rs:List AY}{k j:Nat}{r g:AY}{v:A4}(h:rs[k]?=some r)(y:j<5)(hv:(Ac [r]).set j v=Ac [g]):(Ac rs).set (k*5+j) v=Ac (rs.set k g):=by
 have m:=(zt.1 h).1;have e:(Ac (rs.take k)).length=k*5:=by rw [BG,zy];omega
 rw [<-UE m,Ux h,eA (h:=by omega),e,ep,List.set_append_left (h:=by rw [BG];simp;omega),hv,Hi e,D2];congr 2;rw [<-D2,S0 (by rw [zq,e,BG,BG];rfl)]
theorem H8{sz:Nat}{e:AM}{v:A4}{k:Nat}{xs:List A4}{s:List AU}(h:BZ sz e v k xs s)(O:0<k):∃g cap cur z,v=I6 g k cap/\s=[(g,.cells cur e z)]/\k<=cap/\cur.size=cap*sz/\(∀(i:Nat) (u:A4),xs[i]?=some u->cur[i]?=some u)/\MH z cur.size:=by
 obtain ⟨K,⟨_,h0,_⟩|⟨g,cap,cur,z,rfl,rfl,G,J,m,I,y⟩⟩:=h;· omega
 · refine ⟨g,cap,cur,z,rfl,rfl,G,m,fun i u M=>?_,y⟩
   have E:CG cur 0 xs:=by unfold CG;rw [NO,K];exact I
   have:=E.get i u M;rwa [C6]at this
theorem Y3{M:List AU}{p:B7}{n cap:Nat}{ls:List Bs}(h:DK M (.slice p n cap) ls):GR M p (ls.map Ci):=by
 obtain ⟨O,y,e,K,G⟩:=h;injection e with e1 e2 e3
 subst e1;intro j u E;rw [FG]at E;obtain ⟨s,J,rfl⟩:=S8.1 E;obtain ⟨g,off,cur,T,zz,rfl,I,m⟩:=G j s J;exact ⟨g,off,cur,T,zz,V,I,m⟩
theorem G6.mono{M M':List AU}{g:List A4}{ps:List (List Bs)}(h:G6 M g ps)(y:∀c∈M,c∈M'):G6 M' g ps:=⟨h.1,fun i v l hv m=>(h.2 i v l hv m).mono y⟩
theorem G6.set{M:List AU}{E:List A4}{ps:List (List Bs)}(h:G6 M E ps)(k:Nat){v:A4}{l:List Bs}(hv:DK M v l):G6 M (E.set k v) (ps.set k l):=by
 refine ⟨by rw [GS,GS,h.1],fun i w m y g=>?_⟩;rw [cM]at y g;split at y
 · rename_i e
   rw [B0 e]at g;split at y
   · split at g
     · injection y with y
       injection g with g
       rw [<-y,<-g];exact hv
     · cases g
   · cases y
 · rename_i e
   rw [As e]at g;exact h.2 i w m y g
theorem G6.erase{M:List AU}{g:List A4}{ps:List (List Bs)}(h:G6 M g ps)(k:Nat):G6 M (g.take (k*1)++g.drop ((k+1)*1)) (ps.eraseIdx k):=by
 rw [Iv,Iv,<-List.eraseIdx_eq_take_drop_succ];refine ⟨by rw [List.length_eraseIdx,List.length_eraseIdx,h.1],fun i v l hv m=>?_⟩;rw [List.getElem?_eraseIdx]at hv m;split at hv
 · rename_i e
   rw [B0 e]at m;exact h.2 i v l hv m
 · rename_i e
   rw [As e]at m;exact h.2 _ v l hv m
theorem G6.one{M:List AU}{g:List A4}{ps:List (List Bs)}(h:G6 M g ps):∀u∈g,u.oneCell'=true:=by
 intro u y;obtain ⟨i,hi⟩:=H4 y;have m:=(zt.1 hi).1
 obtain ⟨p,cap,rfl,_⟩:=h.2 i u _ hi (zn (by rw [<-h.1];exact m));rfl
theorem Wd{c:AN}{i:Nat}{v:A4}(h:i<c.size):(c.setIfInBounds i v)[i]?=some v:=by
 rw [Array.getElem?_setIfInBounds_self,B0 h]
structure vZ(x:RP)(B:Int):Prop where
 lo:-B<=x.lo/\x.lo<=B
 hi:-B<=x.hi/\x.hi<=B
 ct:-B<=x.ct/\x.ct<=B
 fi:-B<=x.fi/\x.fi<=B
 row:∀r∈x.rows,(-B<=r.v.a/\r.v.a<=B)/\(-B<=r.v.b/\r.v.b<=B)/\(-B<=r.v.c/\r.v.c<=B)
def bF(r:AY)(j:Nat):Int:=if j=0 then r.v.a else if j=1 then r.v.b else r.v.c
theorem fE(r:AY){j:Nat}(g:j<3):(Ac [r]).set (2+j) (I4 (bF r j+1))=Ac [Ns r j]:=by
 match j,g with
 |0,_=>rfl
 |1,_=>rfl
 |2,_=>rfl
theorem iy(r:AY){j:Nat}(g:j<3):(Ac [r])[2+j]?=some (I4 (bF r j)):=by
 match j,g with
 |0,_=>rfl
 |1,_=>rfl
 |2,_=>rfl
section
variable{x:RP}{a b c:Int}
end
end Go.Proofs.YtlkdhannldcfbaaGreatDoor
namespace Go.Proofs.YtlkdhannldcfbaaGreatDoor
open Go.Proofs.Tryz
open Go Go.RowKit Gw
set_option maxRecDepth 100000
attribute [local irreducible] Gw.At Gw.Nx Gw.Ops
open Go.Extern.Stop Go.Stop Go.Extern
def yn(t:AM):Sem A4:=do Extern.Rtype.noPackHeld "Comparable" t;pure (.bool (←typeInfo t).comparable)
theorem qB(v:A4)(w:A6):(Extern.ReflectliteType.typeOf #[.iface 339 v]).run prog w= .ok (.iface 286 (.agg #[.pointer (some ⟨3,339,none⟩)])) w:=by kernel_rfl
theorem XI(w:A6):((Extern.ReflectliteType.method yn) #[.agg #[.pointer (some ⟨3,339,none⟩)]]).run prog w= .ok (.bool true) w:=by kernel_rfl
theorem OM(v:A4)(w:A6):(Go.method 473 286 v "Comparable").run prog w= .ok (280,v) w:=by kernel_rfl
theorem xQ:(Tryz.prog.info? 339).map (·.comparable)=some true:=by kernel_rfl
theorem xN:(Tryz.prog.info? 362).map (·.size)=some 1:=by kernel_rfl
set_option maxHeartbeats 1000000 in
theorem uz(a:Addr)(w:A6):
 Calls prog 155 #[.iface 339 (.pointer (some a)),.iface 339 (.pointer (some a))] w fun e I=>e= .returned (.bool true)/\I=w:=by
 obtain ⟨i,hi,g⟩:=S8.1 xQ;obtain ⟨j,E,G⟩:=S8.1 xN;have K:=@run_callFunc_extern prog 180 _ Extern.ReflectliteType.typeOf func180 AG AG AG AG
 have m:=@run_callFunc_extern prog 280 _ (Extern.ReflectliteType.method yn) func280 AG AG AG AG;have O:=qB
 have J:=XI;have M:=OM
 have y:=run_eql_iface_ptr_same (P:=prog) w a hQ underlying339 hi g E
 go_enter func155,ntmps155
 go_wp2
 refine wp_loop_rounds 1 ?_;rw [rounds_succ]
 go_wp2
 go_ret
 exact ⟨V,V⟩
theorem uy(a:Addr):BC prog 155 #[.iface 339 (.pointer (some a)),.iface 339 (.pointer (some a))] [] (.bool true):=
 Ny (Rl:=fun v=>v= .bool true) (fun w _=>(uz a w).mono (by rintro e g ⟨rfl,rfl⟩;exact ⟨_,rfl,rfl,Below.refl _ _⟩)) (fun v hv=>⟨hv,rfl⟩)
end Go.Proofs.YtlkdhannldcfbaaGreatDoor
namespace Go.Proofs.YtlkdhannldcfbaaGreatDoor
open Go.Proofs.Tryz
open Go Go.RowKit Gw
set_option maxRecDepth 100000
attribute [local irreducible] Gw.At Gw.Nx Gw.Ops
theorem xP(v:A4)(w:A6):(Instr.typeAssert (.iface 339 v) 20 222 true).run prog w= .ok (.tuple #[.iface 339 v,.bool true]) w:=Go.run_typeAssert_hasB hQ AG v 20 w
theorem YQ{s:Int×Int×Int×Int}{x:RP}{l:List RP}(h:¬(x.scan=s/\Fp x)):Ht s (x::l)=none:=As h
theorem jP{q:QM}{rows:List AY}{k:Nat}{r:AY}{L E:List RP}{o:List AY}(y:rows[k]?=some r)(h:EB q (rows.take k) L=some (o,E))(hn:Ht (O8 q r) E=none):EB q rows L=none:=by
 cases hb:EB q rows L with
 |none=>rfl
 |some b=>
  obtain ⟨I,G,g,J,h2,_⟩:=Le rows k L b (by have:=(zt.1 y).1;omega) hb;rw [h]at g;injection g with g
  injection g with h3 h4
  subst h3 h4;rw [Ty y]at h2;obtain ⟨a,c,m,_,_⟩:=Iu h2;rw [hn]at m;cases m
theorem bM{q:QM}{L:List RP}(h:¬BS q):Cz q L=none:=As h
theorem bL{q:QM}{L:List RP}(g:BS q)(h:Ht (MW q) L=none):Cz q L=none:=by unfold Cz;rw [B0 g,h];rfl
theorem bK{q:QM}{L:List RP}{a:List AY×List RP}(m:BS q)(h:Ht (MW q) L=some a)(g:¬a.1.length<=100):Cz q L=none:=by unfold Cz;rw [B0 m,h,IF,As g]
theorem Nw{q:QM}{L:List RP}{a:List AY×List RP}(m:BS q)(h:Ht (MW q) L=some a)(g:a.1.length<=100):Cz q L=(if q.kd=7 then EB q a.1 a.2 else some ([],a.2)).bind fun b=>if b.2=[]then some (EZ q a.1 b.1)else none:=by unfold Cz;rw [B0 m,h,IF,B0 g]
theorem bJ{q:QM}{L:List RP}{a:List AY×List RP}(y:BS q)(h:Ht (MW q) L=some a)(m:a.1.length<=100)(g:q.kd=7)(hn:EB q a.1 a.2=none):Cz q L=none:=by rw [Nw y h m,B0 g,hn];rfl
theorem NY(b:Bool)(g:Addr)(m:AM)(E:Nat×Nat):Jv prog 101 #[.bool b] [[(0,.cells #[.iface 339 (.pointer (some g))] m E)]] (fun r H'=>b=true/\r=undef/\H'=[[(0,.cells #[.iface 339 (.pointer (some g))] m E)]]) (fun ch H'=>b=false/\ch=[{v:= .iface 339 (.pointer (some g)),recovered:=false}]/\H'=[[(0,.cells #[.iface 339 (.pointer (some g))] m E)]]):=by
 refine Se func101 ntmps101 [0] ?_;intro u R;refine A1<|Zm Y ?_;first|refine Ap (C9 Y) ?_|refine Ap (Cj Y) ?_
 refine AD<|Ad Y (fun y=>?_) (fun y=>?_);·
  refine Zg<|Zl isAgg222 Y ?_;refine Gn Y (Ga V) V (si Y) ?_ ?hpan_1
  case hpan_1=>
   rintro _ _ ⟨rfl,rfl⟩ env;refine PM (by exact ⟨by simpa using y,V,V⟩)
  exact fun _ _ h=>h.elim
 refine AB<|GX V results101 (by exact ⟨by simpa using y,V,V⟩)
set_option maxHeartbeats 1000000 in
theorem nX{M:List AU}{v:A4}{L:List RP}(hL:FE M v L)(t c lo hi:Int)(Z:Nat)(I:Addr)(J:AM)(O:Nat×Nat):Jv prog 102 #[I5 Z,.agg #[I4 t,I4 c,I4 lo,I4 hi]] [[(Z,.cells #[v] 174 (0,0))],M,[(0,.cells #[.iface 339 (.pointer (some I))] J O)]] (fun r H'=>∃a sr v',Ht (t,c,lo,hi) L=some a/\BZ 5 98 r a.1.length (Ac a.1) sr/\FE M v' a.2/\H'=[sr,[(Z,.cells #[v'] 174 (0,0))],M,[(0,.cells #[.iface 339 (.pointer (some I))] J O)]]) (fun ch H'=>Ht (t,c,lo,hi) L=none/\ch=[{v:= .iface 339 (.pointer (some I)),recovered:=false}]/\∃v',H'=[[(Z,.cells #[v'] 174 (0,0))],M,[(0,.cells #[.iface 339 (.pointer (some I))] J O)]]):=by
 have d9:=mL;obtain ⟨p9,y,rfl,af,W⟩:=id hL.form;obtain ⟨n,hn⟩:∃n,n=L.length:=⟨_,rfl⟩;rw [<-hn]at hL af W⊢;refine Se func102 ntmps102 [0,1] ?_;intro u R;refine A1<|Ze (Bx #[_,_,_,_])<|AF fun bx=>A3 Y<|A1<|Zm Y<|Zp Y V<|Zh 0 PJ V rfl DB Y<|Zl E0 Y ?_;refine Zv (AP DQ Y) ?_;first|refine Ap (CO (n:=0) Y Y) ?_|refine Ap (EI Y Y) ?_
 refine Gn Y (Ga V) V (Jd (vs:=[_]) Y Q1 Y V (NY _ I J O) Wp) ?_ ?hpan_1
 case hpan_1=>
  rintro _ _ ⟨_,⟨m,rfl,rfl⟩,rfl⟩ env;refine Zt<|PM (by
   have h0:¬0<n:=N2 m;exact ⟨by have:L=[]:=List.length_eq_zero_iff.1 A0;rw [this];rfl,rfl,.slice p9 n y,rfl⟩)
 rintro _ _ ⟨_,⟨m,rfl,rfl⟩,rfl⟩;have h0:0<n:=HH m
 obtain ⟨x,L2,rfl⟩:∃x L2,L=x::L2:=by
  cases L with
  |nil=>exfalso;rw [KK]at hn;omega
  |cons x l=>exact ⟨x,l,rfl⟩
 rw [D3]at hn;obtain ⟨z,cu,bn,g,off,cur,T,zz,rfl,ax,cO,U⟩:=hL.at (i:=0) rfl;subst cu;have hT:=hL.tail
 refine AD<|A1<|Zm Y<|Zp Y V<|Zh 0 PJ V rfl DB Y<|Zl E0 Y ?_;refine Ap (AO (j:=0) DQ DE Y Y CT)<|Ca (cs:=[(g,.cells cur T zz)]) (by simp [ax]) (A9 (cs:=#[I4 z.x.tb,I4 z.x.cl,I4 z.x.lo,I4 z.x.hi,I4 z.x.ct,I4 z.x.fi,.slice z.qr z.x.rows.length z.cr,.slice z.qp z.x.paths.length z.cp,.slice z.qt z.x.roots.length z.ct]) LI DE Y A0 U) rfl rfl ?_;refine Ze (Al P0 #[_,_,_,_,_,_,_,_,_])<|AF fun bp=>Xe (Xw DE #[I4 z.x.tb,I4 z.x.cl,I4 z.x.lo,I4 z.x.hi,I4 z.x.ct,I4 z.x.fi,.slice z.qr z.x.rows.length z.cr,.slice z.qp z.x.paths.length z.cp,.slice z.qt z.x.roots.length z.ct]) ?_;refine Z0<|Zn [0,3,5] ?_;refine Zx<|A1<|Zm Y<|Zm Y<|Zp Y V<|Zh 0 PJ V rfl DB Y<|Zl E0 Y ?_;refine Ap (Bn (l:=1) DQ DE Y Y CT)<|Zp Y rfl<|Zh 0 PJ rfl rfl DB Y<|Xe (Zs DB Y Y rfl (hi:=by first|omega|decide|(simp;done))) ?_;refine AD<|A1<|Zh 0 C1 V rfl A5 Y<|Zl AE Y (hv:=by exact (V:_=some (Value.int .i64 z.x.tb))) ?_;refine Zh 1 C1 V rfl A5 Y<|Zl AE Y (hv:=by exact (V:_=some (Value.int .i64 z.x.cl))) ?_;refine Zh 2 C1 V rfl A5 Y<|Zl AE Y (hv:=by exact (V:_=some (Value.int .i64 z.x.lo))) ?_;refine Zh 3 C1 V rfl A5 Y<|Zl AE Y (hv:=by exact (V:_=some (Value.int .i64 z.x.hi))) ?_;refine Zv (BQ (vs:=[(0,I4 z.x.tb),(1,I4 z.x.cl),(2,I4 z.x.lo),(3,I4 z.x.hi)]) (cs:=#[I4 z.x.tb,I4 z.x.cl,I4 z.x.lo,I4 z.x.hi]) Y (Aa (pl:=#[(0,1),(1,1),(2,1),(3,1)]) cX LS (fun _=>by kernel_rfl) AG))<|Zo Wh (Pa #[I4 t,I4 c,I4 lo,I4 hi] isAgg114 V2 Y) ?_;refine Zv (R8 AG LS AG AK AK AK AK F0 AE Y Y)<|Gn Y (Ga V) V (Jd (vs:=[_]) Y Q1 Y V (NY _ I J O) Wp) ?_ ?hpan_3
 case hpan_3=>
  rintro _ _ ⟨_,⟨m,rfl,rfl⟩,rfl⟩ env;refine Zt<|PM (by
   have E:=N2 m;exact ⟨YQ (fun h9=>E (by have K:=h9.1;unfold RP.scan at K;injection K with e1 K;injection K with e2 K;injection K with e3 e4;exact ⟨e1,e2,e3,e4⟩)),V,.slice (EF (some ⟨g,off,none⟩) 1 y 9) (n -1) (y -1),V⟩)
 rintro _ _ ⟨_,⟨m,rfl,rfl⟩,rfl⟩;have E:=HH m
 have bf:z.x.scan=(t,c,lo,hi):=by unfold RP.scan;rw [E.1,E.2.1,E.2.2.1,E.2.2.2]
 refine Z0<|Zn [5] ?_;refine Zx<|A1<|Zo Wh (Pa #[I4 z.x.tb,I4 z.x.cl,I4 z.x.lo,I4 z.x.hi,I4 z.x.ct,I4 z.x.fi,.slice z.qr z.x.rows.length z.cr,.slice z.qp z.x.paths.length z.cp,.slice z.qt z.x.roots.length z.ct] LI DE Y) ?_;refine Zc [_] Y call156 Y V (V9 bn.rp) ?_;rintro _ _ ⟨_,⟨vr,sr,rfl,X,rfl⟩,rfl⟩;obtain ⟨gr,c9,rfl⟩:=X.form;refine Zm Y<|Zd Y V<|Zd Y V<|Za Y<|A3 Y<|A1<|Zm Y<|Gn Y (Ga V) V (Jd (vs:=[_]) Y Q1 Y V (NY _ I J O) Wp) ?_ ?hpan_5
 case hpan_5=>
  rintro _ _ ⟨_,⟨m,rfl,rfl⟩,rfl⟩ env;refine Zt<|PM (by
   have E:=N2 m;exact ⟨YQ (fun h9=>E h9.2),V,.slice (EF (some ⟨g,off,none⟩) 1 y 9) (n -1) (y -1),V⟩)
 rintro _ _ ⟨_,⟨m,rfl,rfl⟩,rfl⟩;have G:Fp z.x:=HH m
 refine AD<|A1<|Zm Y<|A3 Y<|AA<|AC V results102 Y (by exact ⟨_,sr,_,QB bf G,X,hT,V⟩)
theorem Pe(y:Nat)(g:Addr)(E:AM)(I:Nat×Nat):La prog 100 #[I5 y] (.panicking [{v:= .iface 339 (.pointer (some g)),recovered:=false}]) (.panicking [{v:= .iface 339 (.pointer (some g)),recovered:=true}]) [[(y,.cells #[.bool true] 4 (0,0))],[(0,.cells #[.iface 339 (.pointer (some g))] E I)]] (fun H'=>H'=[[(y,.cells #[.bool false] 4 (0,0))],[(0,.cells #[.iface 339 (.pointer (some g))] E I)]]):=by
 refine Qo (env1:=[(3,.bool true),(2,.iface 339 (.pointer (some g))),(8,.bool true),(7,.iface 339 (.pointer (some g))),(4,.tuple #[.iface 339 (.pointer (some g)),.bool true]),(6,.tuple #[.iface 339 (.pointer (some g)),.bool true]),(5,.iface 339 (.pointer (some g))),(0,I5 y)]) func100 V ntmps100 V results100 ?hrec_1 ?hwalk_1
 case hrec_1=>
  intro u R c cs Q K J;show Xk _ _ [0,1,2,3,4,5,6] _ _ _ _ _
  refine oV (v:= .iface 339 (.pointer (some g))) (cs':={c with mode:= .panicking [{v:= .iface 339 (.pointer (some g)),recovered:=true}]}::cs) V (by simp [recoverD,K]) V ?_;refine JG V (Ni Y (xP _)) V ?_;refine JG V (AJ Y) V ?_;refine JG V (Ch Y V) V ?_;refine JG V (Ch Y V) V ?_;refine JG V (BF Y) V ?_;refine JG V (BF Y) V ?_;intro a w M;exact J a w M
 intro u R;refine Zb [0,2,3] ?_;refine A1<|Zm Y<|Zm Y<|Ah (t:=10) Y V (fun G=>?_) (fun G=>?_);·
  refine Zf Y Y<|Yl isAgg222 Y ?_;refine Xr [_,_] Y call155 Y V (uy g) ?_;refine Zv (AR Y Y)<|AD<|Ad Y (fun m=>?_) (fun m=>?_);·
   refine Zg<|Zm Y<|Zp Y V<|Xe (Zs Cl Y Y V) ?_;refine Z0<|GX V results100 An
  cases m
 cases G
theorem Oh(g m:Nat):La prog 99 #[I5 g,I5 m] .returning .returning [[(g,.cells #[.bool false] 4 (0,0))],[(m,.cells #[.slice none 0 0,I4 0,.bool false] 38 (0,0))]] (fun H'=>H'=[[(g,.cells #[.bool false] 4 (0,0))],[(m,.cells #[.slice none 0 0,I4 0,.bool false] 38 (0,0))]]):=by
 refine RF func99 V ntmps99 V ?_;intro u R;refine Zb [0,1] ?_;refine A1<|Zl DH Y ?_;first|refine Ap (C9 Y) ?_|refine Ap (Cj Y) ?_
 refine AD<|Ad Y (fun y=>?_) (fun y=>?_);·
  refine Zg<|Zv (BQ (vs:=[]) (cs:=#[.slice none 0 0,I4 0,.bool false]) Y (Aa (pl:=#[(0,1),(1,1),(2,1)]) GW Cp (fun _=>by kernel_rfl) AG))<|Xe (BN B6 Y Y ki Wu (by exact DD rfl) Ek Wn (by exact BU _)) ?_;refine Z0<|GX V results99 An
 cases y
set_option maxHeartbeats 1000000 in
theorem tq{M:List AU}{v:A4}{L:List RP}(hL:FE M v L)(q:QM)(G:Addr)(I:AM)(K:Nat×Nat):Bz prog 43 #[.agg #[I4 q.kd,I4 q.tb,I4 q.cl,I4 q.lo,I4 q.hi,I4 q.bq,I4 q.ot],v] [M,[(0,.cells #[.iface 339 (.pointer (some G))] I K)]] (fun w H'=>∃rv sr,w= .tuple #[.agg #[rv,I4 ((Cz q L).getD CP.none).val,.bool ((Cz q L).getD CP.none).fnd],.bool (Cz q L).isSome]/\BZ 5 98 rv ((Cz q L).getD CP.none).rows.length (Ac ((Cz q L).getD CP.none).rows) sr/\H'=[sr,M,[(0,.cells #[.iface 339 (.pointer (some G))] I K)]]):=by
 have tT:=mL;obtain ⟨pv,cv,rfl,_,_⟩:=id hL.form;refine GA func43 V ntmps43 V ?_;intro u R;refine Zb [0,1] ?_;refine A1<|Ze (Bx #[I4 q.kd,I4 q.tb,I4 q.cl,I4 q.lo,I4 q.hi,I4 q.bq,I4 q.ot])<|AF fun bq=>Ze (Al GW #[_,_,_])<|AF fun bo=>Ze (Al ar #[_])<|AF fun U=>AD<|A1<|Zv (Bt (vs:=[]) (us:=[_,_]) Y Y)<|Ve V Y ?_;refine AD<|A1<|Xe (Zs Cl Y Y rfl (hi:=by first|omega|decide|(simp;done))) ?_;refine AD<|A1<|TE V Y ?_;refine AD<|A1<|Zo Wh (Pa #[_,_,_,_,_,_,_] F2 CM Y) ?_;refine Xr [_] Y call33 Y V (KC q) ?_;refine Mj Y (Ga V) V (Jd (vs:=[_]) Y Q1 Y V (NY _ G I K) Wp) ?_ ?hpan_1
 case hpan_1=>
  rintro _ _ ⟨_,⟨J,rfl,rfl⟩,rfl⟩;refine Zt ?_;have cu:=N2 J
  have y:Cz q L=none:=bM cu;refine Jn (m':= .returning) (ma:= .panicking [{v:= .iface 339 (.pointer (some G)),recovered:=true}]) V call100 (Pe U G I K) V call99 (Oh U bo) Wp Wp ?_;refine ⟨_,[[],M,[(0,.cells #[.iface 339 (.pointer (some G))] I K)]],fun a w E X hs=>F8 bj ((Bi a _ (by rw [E];exact X) 4).trans rfl) (Ar CC B6 (by first|decide|exact B8 _|(simp;done)) (cs:=#[.slice none 0 0,I4 0,.bool false]) (BA rfl) w (F3 (b:=bo) Wh hs)) ((Bi a _ (by rw [E];exact X) 5).trans rfl) (GJ DH (v:= .bool false) (i:=0) rfl w (F3 (b:=U) Wh hs)),⟨.slice none 0 0,[],by rw [y];rfl,by rw [y];exact Ba 5 _,rfl⟩,(show UB ([M,[(0,.cells #[.iface 339 (.pointer (some G))] I K)]]++R) _ from Sub.amid (by repeat(first|exact Sub.refl _|exact Sub.nil _|(apply Sub.cons;(focus (repeat(first|exact One.here _ _|apply One.there))))|refine Sub.drop _ ?_)))⟩
 rintro _ _ ⟨_,⟨J,rfl,rfl⟩,rfl⟩;have hq:=HH J
 have qd:0<=q.bq/\q.bq<=3:=by have:=hq.2.2.2;omega
 refine AD<|A1<|Zm Y<|Zv (BQ (vs:=[(0,_)]) (cs:=#[_]) Y (Aa (pl:=#[(0,1)]) zeroValue174 PJ (fun _=>by kernel_rfl) V))<|Ze (Bx #[_])<|AF fun br=>AH Y<|Zn [2,4,5,6] ?_;refine Zx<|A1<|Zm Y<|Zo Wh (Pa #[_,_,_,_,_,_,_] F2 CM Y) ?_;refine Xr [_] Y call49 Y V (xE q hq) ?_;refine Mj Y (Ga V) V (Jd (vs:=[_,_]) Y call102 Y V (nX hL q.tb q.cl q.lo q.hi br G I K) Wp) ?_ ?hpan_2
 case hpan_2=>
  rintro _ _ ⟨_,⟨mR,rfl,v',rfl⟩,rfl⟩;refine Zt ?_;have y:Cz q L=none:=bL hq mR
  refine Jn (m':= .returning) (ma:= .panicking [{v:= .iface 339 (.pointer (some G)),recovered:=true}]) V call100 (Pe U G I K) V call99 (Oh U bo) Wp Wp ?_;refine ⟨_,[[],M,[(0,.cells #[.iface 339 (.pointer (some G))] I K)]],fun a w E X hs=>F8 bj ((Bi a _ (by rw [E];exact X) 4).trans rfl) (Ar CC B6 (by first|decide|exact B8 _|(simp;done)) (cs:=#[.slice none 0 0,I4 0,.bool false]) (BA rfl) w (F3 (b:=bo) Wh hs)) ((Bi a _ (by rw [E];exact X) 5).trans rfl) (GJ DH (v:= .bool false) (i:=0) rfl w (F3 (b:=U) Wh hs)),⟨.slice none 0 0,[],by rw [y];rfl,by rw [y];exact Ba 5 _,rfl⟩,(show UB ([M,[(0,.cells #[.iface 339 (.pointer (some G))] I K)]]++R) _ from Sub.amid (by repeat(first|exact Sub.refl _|exact Sub.nil _|(apply Sub.cons;(focus (repeat(first|exact One.here _ _|apply One.there))))|refine Sub.drop _ ?_)))⟩
 rintro _ _ ⟨_,⟨a,sr,v1,af,pq,hT,rfl⟩,rfl⟩;have af:Ht (MW q) L=some a:=af
 obtain ⟨x,sw,_,kz,qa⟩:=Ji af;have gm:=Ki kz
 rw [<-qa]at gm;obtain ⟨gr,qz,rfl⟩:=pq.form;have o8:=D6 pq A0
 obtain ⟨p7,qh,e7,⟨sO,qo⟩,qb⟩:=id o8;injection e7 with e71 e72 e73
 subst e71 e73;refine A3 Y<|A1<|Zm Y<|Zv (AP B4 Y) ?_;first|refine Ap (L6 (n:=100) Y Y) ?_|refine Ap (KI Y Y) ?_
 refine Mj Y (Ga V) V (Jd (vs:=[_]) Y Q1 Y V (NY _ G I K) Wp) ?_ ?hpan_3
 case hpan_3=>
  rintro _ _ ⟨_,⟨J,rfl,rfl⟩,rfl⟩;refine Zt ?_;have cu:=N2 J
  have y:Cz q L=none:=bK hq af cu;refine Jn (m':= .returning) (ma:= .panicking [{v:= .iface 339 (.pointer (some G)),recovered:=true}]) V call100 (Pe U G I K) V call99 (Oh U bo) Wp Wp ?_;refine ⟨_,[[],M,[(0,.cells #[.iface 339 (.pointer (some G))] I K)]],fun a w E X hs=>F8 bj ((Bi a _ (by rw [E];exact X) 4).trans rfl) (Ar CC B6 (by first|decide|exact B8 _|(simp;done)) (cs:=#[.slice none 0 0,I4 0,.bool false]) (BA rfl) w (F3 (b:=bo) Wh hs)) ((Bi a _ (by rw [E];exact X) 5).trans rfl) (GJ DH (v:= .bool false) (i:=0) rfl w (F3 (b:=U) Wh hs)),⟨.slice none 0 0,[],by rw [y];rfl,by rw [y];exact Ba 5 _,rfl⟩,(show UB ([M,[(0,.cells #[.iface 339 (.pointer (some G))] I K)]]++R) _ from Sub.amid (by repeat(first|exact Sub.refl _|exact Sub.nil _|(apply Sub.cons;(focus (repeat(first|exact One.here _ _|apply One.there))))|refine Sub.drop _ ?_)))⟩
 rintro _ _ ⟨_,⟨J,rfl,rfl⟩,rfl⟩;have kv:=HH J
 refine AD<|Zq<|Bl<|Zg<|A3 Y<|Zb [8,2,4,5,6,7] ?_;refine CL (e0:=[(8,_)]) (H0:=[[(br,.cells #[_] 174 (0,0))],[]]) (fun e H=>∃(o:List AY) (l9:List RP) (vo:A4) (so:List AU) (v9:A4),(((if q.kd=7 then EB q a.1 a.2 else some ([],a.2))=some (o,l9))/\BZ 5 98 vo o.length (Ac o) so/\FE M v9 l9/\o.length<=200000)/\e=[(8,vo)]/\H=[[(br,.cells #[v9] 174 (0,0))],so]) Wp ?hx_4 ?hy_4
 case hx_4=>
  refine A1<|Zh 0 CN V rfl A5 Y<|Zl AE Y ?_;first|refine Ap (Bb (n:=7) Y Y) ?_|refine Ap (Br Y Y) ?_
  refine Z0<|Zx ?_;first|refine Ak Y (fun W=>?_) (fun W=>?_)|refine Ad Y (fun W=>?_) (fun W=>?_)
  ·
   refine A1<|Zm Y<|Zv (AP B4 Y)<|Zm Y<|AD<|AX<|Zb [8,31,2,4,5,6,7,29,30] ?_;refine BB (e0:=[(8,_),(31,_)]) (fun m e H=>∃(k:Nat) (o:List AY) (l9:List RP) (vo:A4) (so:List AU) (v9:A4),m=a.1.length -k/\(k<=a.1.length/\EB q (a.1.take k) a.2=some (o,l9)/\BZ 5 98 vo o.length (Ac o) so/\FE M v9 l9/\o.length<=2000*k)/\e=[(8,vo),(31,I4 (k:Int))]/\H=[[(br,.cells #[v9] 174 (0,0))],so]) (by exact ⟨0,[],a.2,.slice none 0 0,[],_,V,⟨C2 _,V,Ba 5 _,hT,C2 _⟩,V,V⟩) Wp ?_;rintro _ _ _ ⟨k,o,l9,vo,so,v9,rfl,⟨hk,Z,ax,bn,ve⟩,rfl,rfl⟩;obtain ⟨go,co,rfl⟩:=ax.form;refine Zq<|Zg ?_;first|refine Ap (Au Y Y) ?_|refine Ap (ET Y Y) ?_
   refine AD<|Zq ?_;first|refine Ak Y (fun d9=>?_) (fun d9=>?_)|refine Ad Y (fun d9=>?_) (fun d9=>?_)
   ·
    obtain ⟨O,lv⟩:∃O,a.1[k]?=some O:=⟨_,zn d9⟩;obtain ⟨g,off,cur,T,zz,rfl,qc,qw,p9⟩:=qb k O lv;refine AB<|Zx<|Zq<|AX<|A1<|Ap (AO B4 Ax Y Y CT)<|Ca (cs:=[(g,.cells cur T zz)]) (by simp [qc]) (A9 (cs:=#[I4 O.t,I4 O.k,I4 O.v.a,I4 O.v.b,I4 O.v.c]) C7 Ax Y A0 p9) rfl rfl ?_;refine Ze (Al Dd #[_,_,_,_,_])<|AF fun bx=>Xe (Xw Ax #[I4 O.t,I4 O.k,I4 O.v.a,I4 O.v.b,I4 O.v.c]) ?_;refine AD<|Zg<|Zm Y<|Zm Y<|Zo Wh (Pa #[_,_,_,_,_,_,_] F2 CM Y) ?_;refine Zo Wh (Pa #[_,_,_,_,_] C7 Ax Y) ?_;refine Xr [_,_] Y call50 Y V (O9 q qd O) ?_;refine Mj Y (Ga V) V (Jd (vs:=[_,_]) Y call102 Y V (nX bn q.ot 0 (Bh O q.bq) (Bh O q.bq) br G I K) Wp) ?_ ?hpan_6
    case hpan_6=>
     rintro _ _ ⟨_,⟨mR,rfl,v',rfl⟩,rfl⟩;refine Mk ?_;refine Zt<|Zt<|Mk ?_;refine Zt ?_;have y:Cz q L=none:=bJ hq af kv W (jP lv Z mR)
     refine Jn (m':= .returning) (ma:= .panicking [{v:= .iface 339 (.pointer (some G)),recovered:=true}]) V call100 (Pe U G I K) V call99 (Oh U bo) Wp Wp ?_;refine ⟨_,[[],M,[(0,.cells #[.iface 339 (.pointer (some G))] I K)]],fun a w E X hs=>F8 bj ((Bi a _ (by rw [E];exact X) 4).trans rfl) (Ar CC B6 (by first|decide|exact B8 _|(simp;done)) (cs:=#[.slice none 0 0,I4 0,.bool false]) (BA rfl) w (F3 (b:=bo) Wh hs)) ((Bi a _ (by rw [E];exact X) 5).trans rfl) (GJ DH (v:= .bool false) (i:=0) rfl w (F3 (b:=U) Wh hs)),⟨.slice none 0 0,[],by rw [y];rfl,by rw [y];exact Ba 5 _,rfl⟩,(show UB ([M,[(0,.cells #[.iface 339 (.pointer (some G))] I K)]]++R) _ from Sub.amid (by repeat(first|exact Sub.refl _|exact Sub.nil _|(apply Sub.cons;(focus (repeat(first|exact One.here _ _|apply One.there))))|refine Sub.drop _ ?_)))⟩
    rintro _ _ ⟨_,⟨a9,s5,v5,bf,h5,q8,rfl⟩,rfl⟩;have bf:Ht (O8 q O) l9=some a9:=bf
    obtain ⟨x2,_,_,cO,o9⟩:=Ji bf;have l8:=(Ki cO).1
    rw [<-o9]at l8;have qg:=Mc a.1 k O a.2 _ _ a9 lv Z bf
    obtain ⟨g5,c5,rfl⟩:=h5.form;refine Ze (BR (by_:=40) (sz:=5) B4 (V:Tryz.prog.info? 98=some Tryz.t98) V rfl V rfl Y (ax) Y (Ig h5) Wo Wo (by exact CE _) A0 A0) ?_;rintro _ _ ⟨wo,gq,rfl⟩;obtain ⟨qA,qx,rfl⟩:=gq.form;refine AH Y<|Zn [2,4,5,6,7,8,29,30,31] ?_;refine A8<|Zx<|Zg ?_;first|(refine Ap (Bp (n:=1) Y Y ?_) ?_;(focus (omega)))|(refine Ap (EU Y Y (IntWalk.i64_in _ ?_)) ?_;(focus (omega)))
    refine Zm Y<|Z0<|Zn [8,31,2,4,5,6,7,29,30] ?_;refine AZ (e':=[(8,_),(31,_)]) (by exact ⟨k+1,o++a9.1,a9.2,_,_,_,rfl,⟨by omega,qg,BH gq (by rw [zq]) (by rw [Bf]),q8,by rw [zq];omega⟩,rfl,rfl⟩)
   have ek:k=a.1.length:=by omega
   subst ek;rw [G0]at Z;refine Aw<|Zt<|Zt<|AQ<|Zn [8,2,4,5,6,7] ?_;refine Aq (e':=[(8,_)]) (by first|exact ⟨[],a.2,.slice none 0 0,[],_,⟨As W,Ba 5 _,hT,C2 _⟩,rfl,rfl⟩|exact ⟨o,l9,.slice go o.length co,so,v9,⟨by rw [B0 W];exact Z,ax,bn,by omega⟩,rfl,rfl⟩)
  refine AB<|Zn [8,2,4,5,6,7] ?_;refine Aq (e':=[(8,_)]) (by first|exact ⟨[],a.2,.slice none 0 0,[],_,⟨As W,Ba 5 _,hT,C2 _⟩,rfl,rfl⟩|exact ⟨o,l9,.slice go o.length co,so,v9,⟨by rw [B0 W];exact Z,ax,bn,by omega⟩,rfl,rfl⟩)
 rintro _ _ ⟨o,l9,vo,so,v9,⟨pg,ax,bn,vw⟩,rfl,rfl⟩;obtain ⟨go,co,rfl⟩:=ax.form;obtain ⟨p8,c8,rfl,_,_⟩:=id bn.form;have q9:=D6 ax A0
 refine A1<|Zm Y<|Zp Y V<|Zh 0 PJ V rfl DB Y<|Zl E0 Y ?_;refine Zv (AP DQ Y) ?_;first|refine Ap (Bb (n:=0) Y Y) ?_|refine Ap (Br Y Y) ?_
 refine Mj Y (Ga V) V (Jd (vs:=[_]) Y Q1 Y V (NY _ G I K) Wp) ?_ ?hpan_10
 case hpan_10=>
  rintro _ _ ⟨_,⟨J,rfl,rfl⟩,rfl⟩;refine Zt ?_;have cu:=N2 J
  have y:Cz q L=none:=by rw [Nw hq af kv,pg,IF,As (fun h9:l9=[]=>cu (by rw [h9];rfl))]
  refine Jn (m':= .returning) (ma:= .panicking [{v:= .iface 339 (.pointer (some G)),recovered:=true}]) V call100 (Pe U G I K) V call99 (Oh U bo) Wp Wp ?_;refine ⟨_,[[],M,[(0,.cells #[.iface 339 (.pointer (some G))] I K)]],fun a w E X hs=>F8 bj ((Bi a _ (by rw [E];exact X) 4).trans rfl) (Ar CC B6 (by first|decide|exact B8 _|(simp;done)) (cs:=#[.slice none 0 0,I4 0,.bool false]) (BA rfl) w (F3 (b:=bo) Wh hs)) ((Bi a _ (by rw [E];exact X) 5).trans rfl) (GJ DH (v:= .bool false) (i:=0) rfl w (F3 (b:=U) Wh hs)),⟨.slice none 0 0,[],by rw [y];rfl,by rw [y];exact Ba 5 _,rfl⟩,(show UB ([M,[(0,.cells #[.iface 339 (.pointer (some G))] I K)]]++R) _ from Sub.amid (by repeat(first|exact Sub.refl _|exact Sub.nil _|(apply Sub.cons;(focus (repeat(first|exact One.here _ _|apply One.there))))|refine Sub.drop _ ?_)))⟩
 rintro _ _ ⟨_,⟨J,rfl,rfl⟩,rfl⟩;have sj:=HH J
 have pz:l9=[]:=List.length_eq_zero_iff.1 A0;subst pz;have gy:Cz q L=some (EZ q a.1 o):=by rw [Nw hq af kv,pg];rfl
 refine AD<|A1<|Zo Wh (Pa #[_,_,_,_,_,_,_] F2 CM Y) ?_;refine Zm Y<|Zm Y<|Zc [_,_,_] Y call34 Y V (TZ o8 q9 q A0 (fun _ r hr=>NF (gm.2 r hr) q.bq)) ?_;rintro _ _ ⟨_,⟨vz,s3,rfl,h3,rfl⟩,rfl⟩;rw [MO hq]at h3⊢;obtain ⟨p3,c3,rfl⟩:=h3.form;refine Xe (Xw B6 #[.slice p3 (EZ q a.1 o).rows.length c3,I4 (EZ q a.1 o).val,.bool (EZ q a.1 o).fnd]) ?_;refine Xe (Zs Cl Y Y rfl (hi:=by first|omega|decide|(simp;done))) ?_;refine Z0<|Zn [4,5] ?_;refine Zx<|AA<|Z4 V rfl call100 (iX _) V call99 (mr U _) Wp ?_;rintro _ rfl;refine ⟨_,[s3,M,[(0,.cells #[.iface 339 (.pointer (some G))] I K)]],fun a0 w X hs=>F8 bj ((Bi a0 _ X 4).trans rfl) (Ar CC B6 (by first|decide|exact B8 _|(simp;done)) (cs:=#[.slice p3 (EZ q a.1 o).rows.length c3,I4 (EZ q a.1 o).val,.bool (EZ q a.1 o).fnd]) (BA rfl) w (F3 (b:=bo) Wh hs)) ((Bi a0 _ X 5).trans rfl) (GJ DH (v:= .bool true) (i:=0) rfl w (F3 (b:=U) Wh hs)),⟨_,s3,by rw [gy];rfl,by rw [gy];exact h3,rfl⟩,Sub.amid (by repeat(first|exact Sub.refl _|exact Sub.nil _|(apply Sub.cons;(focus (repeat(first|exact One.here _ _|apply One.there))))|refine Sub.drop _ ?_))⟩
theorem oC(c:Int)(n:Nat)(hn:0<n)(m:n<=1000000)(y:-9223372036854775808<=c)(h2:c<=9223372036854775807):BC prog 21 #[I4 c,I4 (n:Int)] [] (I4 (Bu c n:Int)):=by
 refine Se func21 ntmps21 [0,1] ?_;intro u R;refine A1<|A3 Y<|Zq<|A1<|Zm Y<|Zv (ET Y Y)<|AD<|Ak Y (fun g=>?_) (fun g=>?_);·
  refine Zg<|Zm Y<|Yi Y Y ?_
  (refine Ap (TA Y (IntWalk.i64_in _ ?_)) ?_;(focus (omega)))
  refine A3 Y<|A1<|Zm Y<|Zm Y ?_
  (refine Ap (KH Y Y ?_ rfl) ?_;(focus (omega)))
  refine A3 Y<|AA<|AC rfl results21 Y (by exact ⟨by rw [<-Kr];simp [*],rfl⟩)
 refine AB<|Zx<|A1<|Zm Y<|Zm Y ?_
 (refine Ap (KH Y Y ?_ rfl) ?_;(focus (omega)))
 refine A3 Y<|AA<|AC rfl results21 Y (by exact ⟨by rw [<-Kr];simp [*],rfl⟩)
theorem MN(c:Int)(n:Nat)(hn:0<n)(m:n<=1000000)(y:-9223372036854775808<=c)(h2:c<=9223372036854775807):BC prog 56 #[I4 c,I4 (n:Int)] [] (I4 (Bu c n:Int)):=by
 refine Se func56 ntmps56 [0,1] ?_;intro u R;refine A1<|A3 Y<|Zq<|A1<|Zm Y<|Zv (ET Y Y)<|AD<|Ak Y (fun g=>?_) (fun g=>?_);·
  refine Zg<|Zm Y<|Yi Y Y ?_
  (refine Ap (TA Y (IntWalk.i64_in _ ?_)) ?_;(focus (omega)))
  refine A3 Y<|A1<|Zm Y<|Zm Y ?_
  (refine Ap (KH Y Y ?_ rfl) ?_;(focus (omega)))
  refine A3 Y<|AA<|AC rfl results56 Y (by exact ⟨by rw [<-Kr];simp [*],rfl⟩)
 refine AB<|Zx<|A1<|Zm Y<|Zm Y ?_
 (refine Ap (KH Y Y ?_ rfl) ?_;(focus (omega)))
 refine A3 Y<|AA<|AC rfl results56 Y (by exact ⟨by rw [<-Kr];simp [*],rfl⟩)
set_option maxHeartbeats 1000000 in
theorem ny(g E q2 q3 J:Int)(K:-9223372036854775808<=g)(M:g<=9223372036854775807)(O:-9223372036854775808<=E)(U:E<=9223372036854775807)(af:-9223372036854775808<=q2)(ax:q2<=9223372036854775807)(bf:-9223372036854775808<=q3)(bn:q3<=9223372036854775807)(G:-9223372036854775808<=J)(I:J<=9223372036854775807):Bz prog 22 #[.agg #[I4 g,I4 E,I4 q2,I4 q3,I4 J]] [] (fun r H'=>∃q:QM,BS q/\r= .agg #[I4 q.kd,I4 q.tb,I4 q.cl,I4 q.lo,I4 q.hi,I4 q.bq,I4 q.ot]/\H'=[]):=by
 have y:=Il 7 AK K M;have cu:=Dm (g.tdiv 7) 3 AK
 have W:=Il 9 AK O U;have cO:=Dm (E.tdiv 9) 4 AK
 have X:=Il 3 AK G I;have d9:=Dm (J.tdiv 3) 3 AK
 have Z:=Il 9 AK G I;have ek:=Dm (J.tdiv 9) 3 AK
 have gm:=Dm g 7 AK;have gq:=Dm E 9 AK
 have gy:=Dm q2 14 AK;have kv:=Dm q3 14 AK
 have kz:=Dm J 3 AK;refine Se func22 ntmps22 [0] ?_;intro u R;refine A1<|Ze (Bx #[_,_,_,_,_])<|AF fun bx=>Ze (Al Pr #[_,_,_,_,_,_,_])<|AF fun br=>AD<|Zb [1,2] ?_;refine CL (e0:=[]) (H0:=[]) (fun e H=>∃(bq:Nat),(True)/\e=[(3,I5 bq)]/\H=[[(bq,.cells #[I4 ((1+Bu g 7:Nat):Int),I4 (Bu (g.tdiv 7) 3:Int),I4 0,I4 0,I4 0,I4 0,I4 0] 30 (0,0))]]) Wp ?hx_1 ?hy_1
 case hx_1=>
  refine BJ (n:=11) (0::1::3::7::0::16::48::119::255::0::1023::[]) 1668 AG AG rfl<|A2 0 rfl (Ag (j:=0) S5 A5 Y Y CT)<|B2 1 rfl AE Y ?_;refine A2 4 rfl (Ag (j:=0) S5 A5 Y Y CT)<|B2 5 rfl AE Y ?_;refine A2 6 V (Va (m:=g) (n:=7) Y Y AK (IntWalk.i64_in _ (by have:=Il 7 AK K M;omega)))<|Zz (l:=[2,9])<|BE [true,false] [(5,(_,_))] V rfl (Zu [_,_] Y R0 Y V (MN g 7 AK AK K M)) ?_ (fun _ _ h=>h.elim) ?_;·
   rintro _ _ ⟨rfl,rfl⟩;refine BT<|A2 3 V (Bp (m:=1) Y Y A0)<|Zz (l:=[7,9])<|BE [false] [] V rfl (Zu [_,_] Y R0 Y V (MN (g.tdiv 7) 3 AK AK y.1 y.2)) ?_ (fun _ _ h=>h.elim) ?_;·
    rintro _ _ ⟨rfl,rfl⟩;refine BT<|A2 8 V (BQ (vs:=[(0,I4 ((1+Bu g 7:Nat):Int)),(1,I4 (Bu (g.tdiv 7) 3:Int))]) (cs:=#[I4 ((1+Bu g 7:Nat):Int),I4 (Bu (g.tdiv 7) 3:Int),I4 0,I4 0,I4 0,I4 0,I4 0]) Y (Aa (pl:=#[(0,1),(1,1),(2,1),(3,1),(4,1),(5,1),(6,1)]) Pr CN (fun _=>by kernel_rfl) AG))<|Yw 9 1023 V (Al Pr #[_,_,_,_,_,_,_])<|AF fun bq=>Yw 10 2047 V (Xw CM #[I4 ((1+Bu g 7:Nat):Int),I4 (Bu (g.tdiv 7) 3:Int),I4 0,I4 0,I4 0,I4 0,I4 0])<|C3<|Ao<|Zn [3,1,2] ?_;refine Aq (e':=[(3,_)]) (by exact ⟨bq,trivial,V,V⟩)
   refine BE [true] [(5,(_,_))] V rfl (Al Pr #[_,_,_,_,_,_,_]) ?_ (fun _ _ h=>h.elim) Ay;rintro _ _ ⟨bq,rfl,rfl⟩;refine BT<|Yw 7 767 V (Zu [_,_] Y R0 Y V (MN (g.tdiv 7) 3 AK AK y.1 y.2))<|C3<|A2 8 V (BQ (vs:=[(0,I4 ((1+Bu g 7:Nat):Int)),(1,I4 (Bu (g.tdiv 7) 3:Int))]) (cs:=#[I4 ((1+Bu g 7:Nat):Int),I4 (Bu (g.tdiv 7) 3:Int),I4 0,I4 0,I4 0,I4 0,I4 0]) Y (Aa (pl:=#[(0,1),(1,1),(2,1),(3,1),(4,1),(5,1),(6,1)]) Pr CN (fun _=>by kernel_rfl) AG))<|Yw 10 2047 V (Xw CM #[I4 ((1+Bu g 7:Nat):Int),I4 (Bu (g.tdiv 7) 3:Int),I4 0,I4 0,I4 0,I4 0,I4 0])<|C3<|Ao<|Zn [3,1,2] ?_;refine Aq (e':=[(3,_)]) (by exact ⟨bq,trivial,V,V⟩)
  refine BE [true,true] [(5,(_,_)),(1,(_,_))] V rfl (Al Pr #[_,_,_,_,_,_,_]) ?_ (fun _ _ h=>h.elim) Ay;rintro _ _ ⟨bq,rfl,rfl⟩;refine BT<|Yz 2 3 631 [5,1] [true,false] [(5,(_,_))] V Y V rfl V rfl (Zu [_,_] Y R0 Y V (MN g 7 AK AK K M))<|C3<|BT<|A2 3 V (Bp (m:=1) Y Y A0)<|Yw 7 767 V (Zu [_,_] Y R0 Y V (MN (g.tdiv 7) 3 AK AK y.1 y.2))<|C3<|A2 8 V (BQ (vs:=[(0,I4 ((1+Bu g 7:Nat):Int)),(1,I4 (Bu (g.tdiv 7) 3:Int))]) (cs:=#[I4 ((1+Bu g 7:Nat):Int),I4 (Bu (g.tdiv 7) 3:Int),I4 0,I4 0,I4 0,I4 0,I4 0]) Y (Aa (pl:=#[(0,1),(1,1),(2,1),(3,1),(4,1),(5,1),(6,1)]) Pr CN (fun _=>by kernel_rfl) AG))<|Yw 10 2047 V (Xw CM #[I4 ((1+Bu g 7:Nat):Int),I4 (Bu (g.tdiv 7) 3:Int),I4 0,I4 0,I4 0,I4 0,I4 0])<|C3<|Ao<|Zn [3,1,2] ?_;refine Aq (e':=[(3,_)]) (by exact ⟨bq,trivial,V,V⟩)
 rintro _ _ ⟨bq,_,rfl,rfl⟩;refine Zq<|A1<|Zh 0 CN V rfl A5 Y<|Zl AE Y ?_;refine Zv (Bb (n:=1) Y Y)<|AD<|Ak Y (fun k1=>?_) (fun k1=>?_);·
  refine A1<|Ap (Ag (j:=1) S5 A5 Y Y CT)<|Zl AE Y ?_;refine Xr [_,_] Y R0 Y V (MN E 9 AK AK O U) ?_;refine Ya (m:=1) Y Y<|Zh 3 CN rfl rfl A5 Y<|Xe (Zs A5 Y Y rfl (hi:=by first|omega|decide|(simp;done))) ?_;refine AD<|A1<|Zh 3 CN V rfl A5 Y<|Zl AE Y ?_;refine Zh 4 CN rfl rfl A5 Y<|Xe (Zs A5 Y Y rfl (hi:=by first|omega|decide|(simp;done))) ?_;refine Z0<|Zn [2,3] ?_;refine Zx<|A1<|Zo Wh (A9 (cs:=#[_,_,_,_,_,_,_]) F2 CM Y Wb (by exact BA V)) ?_;refine Xe (BN CM Y Y HU Wu (by exact DD rfl) Ek Wb (by exact BU _)) ?_;refine AD<|AA<|Zt<|DI V results22 Y Wh (Ar F2 CM Wn (BA V)) (by exact ⟨⟨((1+Bu g 7:Nat):Int),(Bu (g.tdiv 7) 3:Int),0,((1+Bu E 9:Nat):Int),((1+Bu E 9:Nat):Int),0,0⟩,NE A0,V,V⟩)
 refine AB<|Zx<|A1<|Ap (Ag (j:=1) S5 A5 Y Y CT)<|Zl AE Y ?_;refine Zv (Va (m:=E) (n:=9) Y Y AK (IntWalk.i64_in _ (by have:=Il 9 AK O U;omega)))<|Xr [_,_] Y R0 Y V (MN (E.tdiv 9) 4 AK AK W.1 W.2) ?_;refine Zh 2 CN rfl rfl A5 Y<|Xe (Zs A5 Y Y rfl (hi:=by first|omega|decide|(simp;done))) ?_;refine AD<|A1<|Ap (Ag (j:=2) S5 A5 Y Y CT)<|Zl AE Y ?_;refine Xr [_,_] Y R0 Y V (MN q2 14 AK AK af ax) ?_
 (refine Ap (HV Y Y (IntWalk.i64_in _ ?_)) ?_;(focus (omega)))
 refine Zh 3 CN rfl rfl A5 Y<|Xe (Zs A5 Y Y rfl (hi:=by first|omega|decide|(simp;done))) ?_;refine Z0<|Zn [1,2,3] ?_;refine Zx<|Zq<|BJ (n:=8) (0::1::0::4::12::31::63::127::[]) 144 AG AG V<|A2 0 V (AV (off:=3) CN V rfl A5 Y)<|B2 1 V AE Y ?_;refine A2 2 rfl (Ag (j:=3) S5 A5 Y Y CT)<|B2 3 rfl AE Y ?_;refine Yz 4 12 31 [3,1] [false,true] [(1,(_,_))] V Y V rfl V rfl (Zu [_,_] Y R0 Y V (MN q3 14 AK AK bf bn)) ?_;rintro _ _ ⟨rfl,rfl⟩;refine ⟨Zk (Ae),?_⟩
 (refine Bq (D':=63) 5 (EU Y Y (IntWalk.i64_in _ ?_)) ?_;(focus (omega)))
 refine A2 6 rfl (AV (off:=4) CN rfl rfl A5 Y)<|Zz (l:=[7])<|BE [false] [] rfl rfl (Zs A5 Y Y rfl (hi:=by first|omega|decide|(simp;done))) ?_ (fun _ _ h=>h.elim) Ay;rintro _ _ ⟨rfl,rfl⟩;refine BT<|Ao<|Zx<|Zb [1,2,3] ?_;refine CL (e0:=[]) (H0:=[[(bq,.cells #[I4 ((1+Bu g 7:Nat):Int),I4 (Bu (g.tdiv 7) 3:Int),I4 (Bu (E.tdiv 9) 4:Int),I4 ((Bu q2 14:Int) -2),I4 ((Bu q2 14:Int) -2+(Bu q3 14:Int)),I4 0,I4 0] 30 (0,0))]]) (fun e H=>∃(lo hi:Int),(-100<=lo/\lo<=hi/\hi<=100)/\e=[]/\H=[[(bq,.cells #[I4 ((1+Bu g 7:Nat):Int),I4 (Bu (g.tdiv 7) 3:Int),I4 (Bu (E.tdiv 9) 4:Int),I4 lo,I4 hi,I4 0,I4 0] 30 (0,0))]]) Wp ?hx_19 ?hy_19
 case hx_19=>
  refine A1<|Zh 2 CN V rfl A5 Y<|Zl AE Y ?_;refine Zv (Bb (n:=3) Y Y)<|AD<|Ak Y (fun k2=>?_) (fun k2=>?_);·
   refine A1<|Zh 3 CN V rfl A5 Y<|Zl AE Y ?_
   (refine Ap (gV Y Y (IntWalk.i64_in _ ?_)) ?_;(focus (omega)))
   (refine Ap (HV Y Y (IntWalk.i64_in _ ?_)) ?_;(focus (omega)))
   refine Zh 3 CN rfl rfl A5 Y<|Xe (Zs A5 Y Y rfl (hi:=by first|omega|decide|(simp;done))) ?_;refine AD<|Zg<|Zh 4 CN V rfl A5 Y<|Zl AE Y ?_
   (refine Ap (gV Y Y (IntWalk.i64_in _ ?_)) ?_;(focus (omega)))
   (refine Ap (HV Y Y (IntWalk.i64_in _ ?_)) ?_;(focus (omega)))
   refine Zh 4 CN rfl rfl A5 Y<|Xe (Zs A5 Y Y rfl (hi:=by first|omega|decide|(simp;done))) ?_;refine Z0<|Zn [1,2,3] ?_;refine Aq (e':=[]) (by(have h9:Bu (E.tdiv 9) 4=3:=k2;exact ⟨((Bu q2 14:Int) -2)*3 -20,((Bu q2 14:Int) -2+(Bu q3 14:Int))*3 -20,⟨by omega,by omega,by omega⟩,V,V⟩))
  refine AB<|Zn [1,2,3] ?_;refine Aq (e':=[]) (by exact ⟨(Bu q2 14:Int) -2,(Bu q2 14:Int) -2+(Bu q3 14:Int),⟨by omega,by omega,by omega⟩,V,V⟩)
 rintro _ _ ⟨lo,hi,⟨mR,lv,l9⟩,rfl,rfl⟩;refine Zb [1,2,3] ?_;refine CL (e0:=[]) (H0:=[[(bq,.cells #[I4 ((1+Bu g 7:Nat):Int),I4 (Bu (g.tdiv 7) 3:Int),I4 (Bu (E.tdiv 9) 4:Int),I4 lo,I4 hi,I4 0,I4 0] 30 (0,0))]]) (fun e H=>∃(b9:Int),((3<=Bu g 7/\1<=b9/\b9<=3)\/(Bu g 7<3/\b9=0))/\e=[]/\H=[[(bq,.cells #[I4 ((1+Bu g 7:Nat):Int),I4 (Bu (g.tdiv 7) 3:Int),I4 (Bu (E.tdiv 9) 4:Int),I4 lo,I4 hi,I4 b9,I4 0] 30 (0,0))]]) Wp ?hx_22 ?hy_22
 case hx_22=>
  refine A1<|Zh 0 CN V rfl A5 Y<|Zl AE Y ?_;refine Zv (Fw (n:=4) Y Y)<|AD<|Ak Y (fun k3=>?_) (fun k3=>?_);·
   refine Zg<|Ap (Ag (j:=4) S5 A5 Y Y CT)<|Zl AE Y ?_;refine Xr [_,_] Y R0 Y V (MN J 3 AK AK G I) ?_;refine Ya (m:=1) Y Y<|Zh 5 CN rfl rfl A5 Y<|Xe (Zs A5 Y Y rfl (hi:=by first|omega|decide|(simp;done))) ?_;refine Z0<|Zn [1,2,3] ?_;refine Aq (e':=[]) (by exact ⟨((1+Bu J 3:Nat):Int),.inl ⟨by omega,by omega,by omega⟩,V,V⟩)
  refine AB<|Zn [1,2,3] ?_;refine Aq (e':=[]) (by exact ⟨0,.inr ⟨by omega,V⟩,V,V⟩)
 rintro _ _ ⟨b9,l8,rfl,rfl⟩;refine Zb [1,2,3] ?_;refine CL (e0:=[(1,_)]) (H0:=[[(bq,.cells #[I4 ((1+Bu g 7:Nat):Int),I4 (Bu (g.tdiv 7) 3:Int),I4 (Bu (E.tdiv 9) 4:Int),I4 lo,I4 hi,I4 b9,I4 0] 30 (0,0))]]) (fun e H=>∃(b8 o8:Int),(BS ⟨((1+Bu g 7:Nat):Int),(Bu (g.tdiv 7) 3:Int),(Bu (E.tdiv 9) 4:Int),lo,hi,b8,o8⟩)/\e=[]/\H=[[(bq,.cells #[I4 ((1+Bu g 7:Nat):Int),I4 (Bu (g.tdiv 7) 3:Int),I4 (Bu (E.tdiv 9) 4:Int),I4 lo,I4 hi,I4 b8,I4 o8] 30 (0,0))]]) Wp ?hx_25 ?hy_25
 case hx_25=>
  refine A1<|Zh 0 CN V rfl A5 Y<|Zl AE Y ?_;refine Zv (Bb (n:=7) Y Y)<|AD<|Ak Y (fun k4=>?_) (fun k4=>?_);·
   refine A1<|Ap (Ag (j:=4) S5 A5 Y Y CT)<|Zl AE Y ?_;refine Zv (Va (m:=J) (n:=3) Y Y AK (IntWalk.i64_in _ (by have:=Il 3 AK G I;omega)))<|Xr [_,_] Y R0 Y V (MN (J.tdiv 3) 3 AK AK X.1 X.2) ?_;refine Zh 6 CN rfl rfl A5 Y<|Xe (Zs A5 Y Y rfl (hi:=by first|omega|decide|(simp;done))) ?_;refine AD<|A1<|Ap (Ag (j:=4) S5 A5 Y Y CT)<|Zl AE Y ?_;refine Zv (Va (m:=J) (n:=9) Y Y AK (IntWalk.i64_in _ (by have:=Il 9 AK G I;omega)))<|Xr [_,_] Y R0 Y V (MN (J.tdiv 9) 3 AK AK Z.1 Z.2) ?_;refine Zv (CO (n:=0) Y Y)<|Z0<|Zn [2,3,75] ?_;refine Zx<|Ak Y (fun k5=>?_) (fun k5=>?_);·
    refine Zg<|Zh 5 CN rfl rfl A5 Y<|Xe (Zs A5 Y Y rfl (hi:=by first|omega|decide|(simp;done))) ?_;refine Z0<|Zn [2,3] ?_;refine Aq (e':=[]) (by(have h9:0<Bu (J.tdiv 9) 3:=k5;exact ⟨2,(Bu (J.tdiv 3) 3:Int),NE A0,V,V⟩))
   refine AB<|Zn [2,3] ?_;refine Aq (e':=[]) (by(have h9:1+Bu g 7=7:=k4;exact ⟨b9,(Bu (J.tdiv 3) 3:Int),NE A0,V,V⟩))
  refine AB<|Zn [2,3] ?_;refine Aq (e':=[]) (by exact ⟨b9,0,NE A0,V,V⟩)
 rintro _ _ ⟨b8,o8,hv,rfl,rfl⟩;refine A1<|Zo Wh (A9 (cs:=#[_,_,_,_,_,_,_]) F2 CM Y Wb (by exact BA V)) ?_;refine Xe (BN CM Y Y HU Wu (by exact DD rfl) Ek Wb (by exact BU _)) ?_;refine AD<|AA<|DI V results22 Y Wh (Ar F2 CM Wn (BA V)) (by exact ⟨⟨_,_,_,_,_,_,_⟩,hv,V,V⟩)
theorem yR{M:List AU}{v:A4}{xs:List (List Int)}(I:Pm M v xs):Bz prog 20 #[v] [M] (fun r H'=>∃(l:List Bg) (s:List AU),DN l/\(l.length<=20/\WP l)/\Cw s r l/\H'=[s,M]):=by
 have K:=mL;obtain ⟨X,G,rfl,U,J⟩:=id I;have y:=nG I (min xs.length 20) (aE _ _)
 have O:(xs.take (min xs.length 20)).length<=20:=by rw [zy];omega
 refine Se func20 ntmps20 [0] ?_;intro u R;refine A1<|A3 Y<|A1<|Zm Y<|Zm Y<|Zv (AP cV Y)<|Zv (Ky (n:=20) Y Y)<|Ap (Bc cV sizeOf189 Y Y (by first|omega|(simp;omega)))<|Zc [_] Y call55 Y rfl (x8 y A0) ?_;rintro _ _ ⟨_,⟨l,W,g,E,m,rfl⟩,rfl⟩;refine A3 Y<|AA<|AC V results20 Y (by exact ⟨l,W,g,⟨by omega,E.2⟩,m,V⟩)
set_option maxHeartbeats 1000000 in
theorem Yc{M:List AU}{v:A4}{xs:List (List Int)}(hX:Pm M v xs)(q0 q1 q2 q3 q4 g m:Int)(U:-9223372036854775808<=q0)(W:q0<=9223372036854775807)(X:-9223372036854775808<=q1)(Z:q1<=9223372036854775807)(af:-9223372036854775808<=q2)(ax:q2<=9223372036854775807)(bf:-9223372036854775808<=q3)(bn:q3<=9223372036854775807)(cO:-9223372036854775808<=q4)(d9:q4<=9223372036854775807)(G:-9223372036854775808<=g)(I:g<=9223372036854775807)(J:-9223372036854775808<=m)(K:m<=9223372036854775807)(tw:A4):Bz prog 5 #[.agg #[v,I4 q0,I4 q1,I4 q2,I4 q3,I4 q4,I4 g,I4 m,tw]] [M] (fun r H'=>∃(l:List Bg) (p:B7) (cap:Nat) (s:List AU) (q:QM) (a b:Nat),DN l/\(l.length<=20/\WP l)/\Cw s (.slice p l.length cap) l/\BS q/\a<=b/\b<=l.length/\r= .tuple #[.slice p l.length cap,.agg #[I4 q.kd,I4 q.tb,I4 q.cl,I4 q.lo,I4 q.hi,I4 q.bq,I4 q.ot],I4 (a:Int),I4 (b:Int)]/\H'=[s,M]):=by
 have l8:=mL;obtain ⟨py,y,rfl,l9,gy⟩:=id hX;refine Se func5 ntmps5 [0] ?_;intro u R;refine A1<|Ze (Bx #[.slice py xs.length y,I4 q0,I4 q1,I4 q2,I4 q3,I4 q4,I4 g,I4 m,tw])<|AF fun bc=>Za Y<|Ze (Al Pr #[_,_,_,_,_,_,_])<|AF fun bq=>Za Y<|A3 Y<|A1<|Zh 0 aq V rfl sizeOf22 Y<|Zl isAgg22 Y ?_;refine Zc [_] Y call20 Y V (yR hX) ?_;rintro _ _ ⟨_,⟨l,sl,O,gq,E,rfl⟩,rfl⟩;obtain ⟨pl,cl,rfl,kv,kz⟩:=id E;refine A3 Y<|A1<|Zh 6 aq V rfl A5 Y<|Zl AE Y ?_;refine Zm Y<|Zv (AP Fl Y)<|Ya (n:=1) Y Y<|Xr [_,_] Y call21 Y V (oC g (l.length+1) A0 A0 G I) ?_;obtain ⟨a,ha⟩:∃a,a=Bu g (l.length+1):=⟨_,rfl⟩;rw [<-ha];have ek:=Dm g (l.length+1) A0
 rw [<-ha]at ek;refine AH Y<|Zn [1,3,6,7] ?_;refine Zx<|Zq<|BJ (n:=19) (0::0::2::6::0::0::0::64::0::256::0::1792::3840::8142::16366::16335::49103::114655::262143::[]) 73736 AG AG V<|A2 0 V (AJ Y)<|A2 1 V (AV (off:=1) aq V rfl sizeOf23 Y)<|Fc 2 V Wh (Pa #[_,_,_,_,_] isAgg23 sizeOf23 Y) ?_;refine A2 4 V (AJ Y)<|A2 5 V (AJ Y)<|A2 6 V (AV (off:=7) aq V rfl A5 Y)<|B2 7 V AE Y ?_;refine A2 8 V (AJ Y)<|A2 9 V (AP Fl Y)<|A2 10 V (AJ Y) ?_
 (refine Bq (D':=4087) 11 (Bo Y Y ?_ ?_) ?_;(focus (omega));(focus (omega)))
 refine A2 12 V (Bp (n:=1) Y Y A0)<|Zz (l:=[3])<|BE [true,false] [(7,(_,_))] V rfl (Zw [_] Y call22 Y V (ny q0 q1 q2 q3 q4 U W X Z af ax bf bn cO d9)) ?_ Co Ay;rintro _ _ ⟨_,⟨q,hq,rfl,rfl⟩,rfl⟩;refine BT<|Yw 13 16383 V (Zu [_,_] Y call21 Y V (oC m (l.length -a+1) A0 A0 J K)) ?_;rintro _ _ ⟨rfl,rfl⟩;obtain ⟨d,hd⟩:∃d,d=Bu m (l.length -a+1):=⟨_,rfl⟩;rw [<-hd];have gm:=Dm m (l.length -a+1) A0
 rw [<-hd]at gm;refine A2 14 rfl (Bp Y Y A0)<|A2 15 rfl (BF Y)<|Zz (l:=[16])<|BE [] [] rfl rfl (BN CM Y Y HU Wu (by exact DD rfl) Ek Wb (by exact BU _)) ?_ (fun _ _ h=>h.elim) Ay;rintro _ _ ⟨rfl,rfl⟩;refine BT<|A2 17 V (BF Y)<|A2 18 V (BF Y)<|Ao<|Zn [2,3,4,5] ?_;refine Zx<|AA<|dP V results5 Y Y Wh (Ar F2 CM Wn (BA V)) Y Y (by exact ⟨l,pl,cl,sl,q,a,a+d,O,gq,E,hq,by omega,by omega,V,V⟩)
set_option maxHeartbeats 2000000 in
theorem lS{M:List AU}{p:B7}{cap:Nat}{l:List Bg}(G:Cw M (.slice p l.length cap) l)(g:DN l)(ax:l.length<=20)(a b:Nat)(U:a<=b)(hb:b<=l.length)(q:QM)(hq:BS q)(Z:AM)(zg:Nat×Nat):Bz prog 6 #[.slice p l.length cap,I4 (a:Int),I4 (b:Int),.agg #[I4 q.kd,I4 q.tb,I4 q.cl,I4 q.lo,I4 q.hi,I4 q.bq,I4 q.ot]] [[(1,.cells (Di.map CB).toArray Z zg)],M] (fun w H'=>∃(z:Fq) (s mem:List AU) (t:Bool) (J:B7) (I:Nat),((t=true/\Ed l a b q=some z.a/\z.ok (s++mem++M))\/(t=false/\Ed l a b q=none/\z=AZ0))/\FE mem (.slice J (Em (Bd (l.take a)) q).length I) (Em (Bd (l.take a)) q)/\w= .tuple #[.agg #[I4 q.kd,I4 q.tb,I4 q.cl,I4 q.lo,I4 q.hi,I4 q.bq,I4 q.ot,I4 0,I4 (a:Int),.slice J (Em (Bd (l.take a)) q).length I],.agg #[I4 z.a.q.kd,I4 z.a.q.tb,I4 z.a.q.cl,I4 z.a.q.lo,I4 z.a.q.hi,I4 z.a.q.bq,I4 z.a.q.ot,.slice z.rp z.a.res.rows.length z.rc,I4 z.a.res.val,.bool z.a.res.fnd,I4 z.a.since,I4 z.a.until_,I4 z.a.base,.slice z.gp z.a.ranges.length z.gc,.slice z.cp z.a.recs.length z.cc],.bool t]/\H'=[s,mem,[(1,.cells (Di.map CB).toArray Z zg)],M]):=by
 have gm:=mL;obtain ⟨p9,bn,e9,⟨d9,ek⟩,_⟩:=id G;injection e9 with e91 e92 e93
 subst e91 e93;obtain ⟨hs,hn⟩:=g.rows a A0;have X:=g.rowsOk a A0
 have E:=GD g ax (by omega:a<=l.length) q;have O:=FY hs hn X hq E
 have bf:=LF (Bd (l.take a)) q;obtain ⟨L,hL⟩:∃L,L=Em (Bd (l.take a)) q:=⟨_,rfl⟩;have af:Ed l a b q=EG q (a:Int) L (FC l a b):=by unfold Ed;rw [<-hL]
 rw [<-hL]at O bf⊢;refine Se func6 ntmps6 [0,1,2,3] ?_;intro u R;refine A1<|Ze (Bx #[I4 q.kd,I4 q.tb,I4 q.cl,I4 q.lo,I4 q.hi,I4 q.bq,I4 q.ot])<|AF fun bq=>Ze (Al Wg #[_,_,_,_,_,_,_,_,_,_])<|AF fun be=>Ze (Al Hv #[_,_,_,_,_,_,_,_,_,_,_,_,_,_,_])<|AF fun ba=>A3 Y<|A1<|Zm Y<|Zm Y<|Zc [_,_] Y call10 Y V (wL G g A0 a A0) ?_;rintro _ _ ⟨_,⟨vs,ss,rfl,hS,rfl⟩,rfl⟩;refine Zm Y<|Zd Y V<|Zd Y V<|Za Y<|A3 Y<|Zq<|A1<|Zm Y<|Zv (E5 (n:=0) Y Y)<|Z0<|Zn [0,1,2,7,8,9,11,25] ?_;refine Zx<|Ak Y (fun W=>?_) (fun W=>?_);·
  exact absurd V W
 refine AB<|Zx<|A1<|Zm Y<|Zo Wh (A9 (cs:=#[_,_,_,_,_,_,_]) F2 CM Y Wb (by exact BA V)) ?_;refine Zc [_,_] Y call17 Y V (xI _ _ _ _ hS hs hn X q hq E Z zg) ?_;rintro _ _ ⟨_,⟨vo,mem,rfl,y,rfl⟩,rfl⟩;rw [<-hL]at y;obtain ⟨J,I,rfl,cu,cO⟩:=y.form;refine Zm Y<|Zd Y V<|Zd Y V<|Za Y<|A3 Y<|A1<|Zo Wh (A9 (cs:=#[_,_,_,_,_,_,_]) F2 CM Y Wb (by exact BA V)) ?_;refine Zm Y<|Zm Y<|Zv (BQ (vs:=[(0,.agg #[I4 q.kd,I4 q.tb,I4 q.cl,I4 q.lo,I4 q.hi,I4 q.bq,I4 q.ot]),(2,I4 (a:Int)),(3,.slice J L.length I)]) (cs:=#[I4 q.kd,I4 q.tb,I4 q.cl,I4 q.lo,I4 q.hi,I4 q.bq,I4 q.ot,I4 0,I4 (a:Int),.slice J L.length I]) Y (Aa (pl:=#[(0,7),(7,1),(8,1),(9,1)]) Wg OS (fun _=>by kernel_rfl) AG))<|Ze (Al Wg #[_,_,_,_,_,_,_,_,_,_])<|AF fun bx=>Xe (Xw Vc #[I4 q.kd,I4 q.tb,I4 q.cl,I4 q.lo,I4 q.hi,I4 q.bq,I4 q.ot,I4 0,I4 (a:Int),.slice J L.length I]) ?_;refine Z0<|Zn [0,1,2,8,9,14,15] ?_;refine Zx<|Zb [0,1,2,8,9,14,15] ?_;refine CL (e0:=[(0,_),(1,_),(2,_)]) (H0:=[mem,M]) (fun e H=>∃(z:Fq) (s:List AU) (t:Bool) (K:Nat),((t=true/\EG q (a:Int) L (FC l a b)=some z.a/\z.ok (s++mem++M))\/(t=false/\EG q (a:Int) L (FC l a b)=none/\z=AZ0))/\e=[(16,I5 K),(17,.bool t)]/\H=[[(K,.cells #[I4 z.a.q.kd,I4 z.a.q.tb,I4 z.a.q.cl,I4 z.a.q.lo,I4 z.a.q.hi,I4 z.a.q.bq,I4 z.a.q.ot,.slice z.rp z.a.res.rows.length z.rc,I4 z.a.res.val,.bool z.a.res.fnd,I4 z.a.since,I4 z.a.until_,I4 z.a.base,.slice z.gp z.a.ranges.length z.gc,.slice z.cp z.a.recs.length z.cc] 40 (0,0))],s,mem,M]) Wp ?hx_1 ?hy_1
 case hx_1=>
  refine BJ (n:=12) (0::0::0::0::14::31::63::127::127::0::767::2047::[]) 1568 AG AG V<|Fc 0 V Wh (A9 (cs:=#[I4 q.kd,I4 q.tb,I4 q.cl,I4 q.lo,I4 q.hi,I4 q.bq,I4 q.ot,I4 0,I4 (a:Int),.slice J L.length I]) isAgg35 Vc Y (by exact B8 _) (by exact BA V)) ?_;refine A2 1 V (AJ Y)<|A2 2 V (AJ Y)<|A2 3 V (AJ Y) ?_
  (refine Bq (D':=31) 4 (Nk Fl E6 Y Y Y ?_ ?_) ?_;(focus (omega));(focus (omega)))
  refine Zz (l:=[5,9])<|BE [false] [] V rfl (Zw [_,_] Y call16 Y V (Pf q 0 (a:Int) A0 (y.mono (fun c hc=>E3 M hc)) A0 O (Ey (Ma G U hb) (fun c hc=>DA mem hc)) (Ku g a b))) ?_ Co ?_;·
   rintro _ _ ⟨_,⟨z,s,t,hz,rfl,rfl⟩,rfl⟩;refine BT<|A2 6 V (AJ Y)<|A2 7 V (Ch Y V)<|A2 8 V (Ch Y V)<|Zz (l:=[9])<|BE [] [] V rfl (Al Hv #[_,_,_,_,_,_,_,_,_,_,_,_,_,_,_]) ?_ (fun _ _ h=>h.elim) Ay;rintro _ _ ⟨K,rfl,rfl⟩;refine BT<|Yw 10 2047 V (Xw F1 #[I4 z.a.q.kd,I4 z.a.q.tb,I4 z.a.q.cl,I4 z.a.q.lo,I4 z.a.q.hi,I4 z.a.q.bq,I4 z.a.q.ot,.slice z.rp z.a.res.rows.length z.rc,I4 z.a.res.val,.bool z.a.res.fnd,I4 z.a.since,I4 z.a.until_,I4 z.a.base,.slice z.gp z.a.ranges.length z.gc,.slice z.cp z.a.recs.length z.cc])<|C3<|A2 11 V (BF Y)<|Ao<|Zn [16,17,8,9,14,15] ?_;refine Aq (e':=[(16,_),(17,_)]) (by exact ⟨z,s,t,K,hz,V,V⟩)
  refine BE [true] [(0,(_,_))] V rfl (Al Hv #[_,_,_,_,_,_,_,_,_,_,_,_,_,_,_]) ?_ (fun _ _ h=>h.elim) Ay;rintro _ _ ⟨K,rfl,rfl⟩;refine BT<|Zz (l:=[5])<|BE [false] [] V rfl (Zw [_,_] Y call16 Y V (Pf q 0 (a:Int) A0 (y.mono (fun c hc=>E3 M hc)) A0 O (Ey (Ma G U hb) (fun c hc=>DA mem hc)) (Ku g a b))) ?_ Co Ay;rintro _ _ ⟨_,⟨z,s,t,hz,rfl,rfl⟩,rfl⟩;refine BT<|A2 6 V (AJ Y)<|A2 7 V (Ch Y V)<|A2 8 V (Ch Y V)<|Zz (l:=[10])<|BE [] [] V rfl (Xw F1 #[I4 z.a.q.kd,I4 z.a.q.tb,I4 z.a.q.cl,I4 z.a.q.lo,I4 z.a.q.hi,I4 z.a.q.bq,I4 z.a.q.ot,.slice z.rp z.a.res.rows.length z.rc,I4 z.a.res.val,.bool z.a.res.fnd,I4 z.a.since,I4 z.a.until_,I4 z.a.base,.slice z.gp z.a.ranges.length z.gc,.slice z.cp z.a.recs.length z.cc]) ?_ (fun _ _ h=>h.elim) Ay;rintro _ _ ⟨rfl,rfl⟩;refine BT<|A2 11 V (BF Y)<|Ao<|Zn [16,17,8,9,14,15] ?_;refine Aq (e':=[(16,_),(17,_)]) (by exact ⟨z,s,t,K,hz,V,V⟩)
 rintro _ _ ⟨z,s,t,K,hz,rfl,rfl⟩;refine Zq<|BJ (n:=10) (0::0::0::4::12::28::60::29::159::511::[]) 384 AG AG V<|Fc 0 V Wh (A9 (cs:=#[_,_,_,_,_,_,_,_,_,_]) isAgg35 Vc Y Wb (by exact BA V)) ?_;refine Fc 1 V Wh (A9 (cs:=#[_,_,_,_,_,_,_,_,_,_,_,_,_,_,_]) HP F1 Y Wb (by exact BA V)) ?_;refine A2 2 V (AJ Y)<|A2 3 V (Bb (n:=0) Y Y)<|A2 4 V (AJ Y)<|Cc (t:=51) Y (fun m=>?_) (fun m=>?_);·
  first|rw [CA m]|rw [m]|skip
  refine B1 5 rfl (AJ Y)<|A2 6 rfl (AR Y Y)<|Zz (l:=[7])<|BE [true,false] [(1,(_,_))] rfl rfl (BN Vc Y Y HU Wu (by exact DD rfl) Ek Wb (by exact BU _)) ?_ (fun _ _ h=>h.elim) Ay;rintro _ _ ⟨rfl,rfl⟩;refine BT<|Yw 8 511 rfl (BN F1 Y Y HU Wu (by exact DD rfl) Ek Wb (by exact BU _))<|C3<|A2 9 rfl (BF Y)<|Ao<|Zx<|AA<|jr rfl results6 Y Y Y Wh Wh (Ar isAgg35 Vc Wn (BA rfl)) (Ar HP F1 Wn (BA rfl)) (by exact ⟨z,s,mem,t,J,I,by rw [af];exact hz,y,rfl,rfl⟩)
 first|rw [Bm m]|rw [m]|skip
 exact absurd V m
theorem XY{M:List AU}{p:B7}{cap:Nat}{l:List Bg}(I:Cw M (.slice p l.length cap) l)(g:DN l)(K:l.length<=20)(a b:Nat)(J:a<=b)(W:b<=l.length)(q:QM)(X:BS q)(G:AM)(O:Nat×Nat):Bz prog 6 #[.slice p l.length cap,I4 (a:Int),I4 (b:Int),.agg q.Ao6] [[(1,.cells (Di.map CB).toArray G O)],M] (fun w H'=>∃(z:Fq) (E:List AU) (t:Bool) (y:B7) (m:Nat),((t=true/\Ed l a b q=some z.a/\z.ok (E++M))\/(t=false/\Ed l a b q=none/\z=AZ0))/\FE (E++M) (.slice y (Em (Bd (l.take a)) q).length m) (Em (Bd (l.take a)) q)/\w= .tuple #[.agg #[I4 q.kd,I4 q.tb,I4 q.cl,I4 q.lo,I4 q.hi,I4 q.bq,I4 q.ot,I4 0,I4 (a:Int),.slice y (Em (Bd (l.take a)) q).length m],.agg z.Ao7,.bool t]/\H'=[E,[(1,.cells (Di.map CB).toArray G O)],M]):=by
 refine Dw (lS I g K a b J W q X G O) V ?_;rintro w H' ⟨z,s,mem,t,y,m,U,h2,rfl,rfl⟩;exact ⟨_,⟨z,s++mem,t,y,m,U,h2.mono (fun c hc=>E3 _ (DA _ hc)),V,V⟩,by simp⟩
end Go.Proofs.YtlkdhannldcfbaaGreatDoor
