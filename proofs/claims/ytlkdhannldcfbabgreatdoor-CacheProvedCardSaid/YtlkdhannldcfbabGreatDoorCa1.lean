/- What Start makes of proofs; what Make returns; proofs in memory. -/
import Derived.Test.YtlkdhannldcfbabGreatDoorPf3
set_option linter.unusedVariables false
set_option linter.unusedSimpArgs false
namespace Go.Proofs.YtlkdhannldcfbabGreatDoor
open Go.Proofs.Tryz
open Go Go.RowKit Gw
set_option maxRecDepth 100000
attribute [local irreducible] Gw.At Gw.Nx Gw.Ops
structure RPZ where
 x:RP
 qr:BE
 cr:Nat
 qp:BE
 cp:Nat
 qt:BE
 ct:Nat
def Eu(z:RPZ):List A2:=[I4 z.x.tb,I4 z.x.cl,I4 z.x.lo,I4 z.x.hi,I4 z.x.ct,I4 z.x.fi,.slice z.qr z.x.rows.length z.cr,.slice z.qp z.x.paths.length z.cp,.slice z.qt z.x.roots.length z.ct]
def RPZ.ok(M:List A8)(z:RPZ):Prop:=Dp M (.slice z.qr z.x.rows.length z.cr) z.x.rows/\J3 M (.slice z.qp z.x.paths.length z.cp) z.x.paths/\Di M (.slice z.qt z.x.roots.length z.ct) z.x.roots
variable{M:List A8}{v:A2}{x:RP}
theorem xO(h:SF M v x):∃z:RPZ,z.x=x/\z.ok M/\v= .agg #[I4 z.x.tb,I4 z.x.cl,I4 z.x.lo,I4 z.x.hi,I4 z.x.ct,I4 z.x.fi,.slice z.qr z.x.rows.length z.cr,.slice z.qp z.x.paths.length z.cp,.slice z.qt z.x.roots.length z.ct]:=by
 obtain ⟨K,J,O,rfl,g,h2,m⟩:=h;obtain ⟨qr,cr,rfl,B⟩:=id g;obtain ⟨qp,cp,rfl,G⟩:=id h2;obtain ⟨qt,ct,rfl,I⟩:=id m;exact ⟨⟨x,qr,cr,qp,cp,qt,ct⟩,V,⟨g,h2,m⟩,V⟩
variable{M':List A8}{z:RPZ}
theorem RPZ.ok.mono(h:z.ok M)(g:∀c∈M,c∈M'):z.ok M':=⟨h.1.mono g,h.2.1.mono g,h.2.2.mono g⟩
theorem RPZ.ok.rp(h:z.ok M):SF M (.agg #[I4 z.x.tb,I4 z.x.cl,I4 z.x.lo,I4 z.x.hi,I4 z.x.ct,I4 z.x.fi,.slice z.qr z.x.rows.length z.cr,.slice z.qp z.x.paths.length z.cp,.slice z.qt z.x.roots.length z.ct]) z.x:=⟨_,_,_,rfl,h⟩
def ZsU(M:List A8)(v:A2)(Z:List RPZ):Prop:=∃p cap,v= .slice p Z.length cap/\(Z.length<=maxLen/\Z.length<=cap)/\∀(i:Nat) (z:RPZ),Z[i]?=some z->z.ok M/\∃g off cur T zz,p=some ⟨g,off,none⟩/\(g,Obj.cells cur T zz)∈M/\off+i*9+9<=cur.size/\cur.extract (off+i*9) (off+i*9+9)=#[I4 z.x.tb,I4 z.x.cl,I4 z.x.lo,I4 z.x.hi,I4 z.x.ct,I4 z.x.fi,.slice z.qr z.x.rows.length z.cr,.slice z.qp z.x.paths.length z.cp,.slice z.qt z.x.roots.length z.ct]
def FV(M:List A8)(v:A2)(L:List RP):Prop:=∃Z,ZsU M v Z/\Z.map RPZ.x=L
variable{Z:List RPZ}
theorem ZsU.mono(h:ZsU M v Z)(m:∀c∈M,c∈M'):ZsU M' v Z:=by
 obtain ⟨p,cap,e,K,J⟩:=h;refine ⟨p,cap,e,K,fun i z hz=>?_⟩;obtain ⟨h2,g,off,cur,T,zz,B,G,I⟩:=J i z hz;exact ⟨h2.mono m,g,off,cur,T,zz,B,m _ G,I⟩
variable{L:List RP}
theorem FV.mono(h:FV M v L)(m:∀c∈M,c∈M'):FV M' v L:=by
 obtain ⟨Z,g,h2⟩:=h;exact ⟨Z,g.mono m,h2⟩
variable{s:List A8}
theorem Xc{B:List A8}(h:BU 9 145 v Z.length (Z.flatMap Eu) s)(hn:Z.length<=maxLen)(I:∀z∈Z,z.ok B):ZsU (s++B) v Z:=by
 obtain ⟨b,cap,rfl⟩:=h.form;refine ⟨b,cap,V,⟨hn,Eo h⟩,fun i z hz=>⟨(I z (Ek hz)).mono (fun c hc=>HK _ hc),?_⟩⟩;obtain ⟨g,G,cur,zz,hv,rfl,J,m⟩:=H7 h i (C7.1 hz).1;injection hv with hv1 hv2 hv3
 refine ⟨g,0,cur,145,zz,hv1,G1 _ (CH.2 V),by omega,?_⟩;rw [Dd];apply J0.1;rw [m];exact Gi _ 9 (fun _=>rfl) Z i z hz
theorem A21{g:List A8}(h:BU 9 145 v Z.length (Z.flatMap Eu) s)(hn:Z.length<=maxLen)(m:∀z∈Z,z.ok g):FV (s++g) v (Z.map RPZ.x):=⟨Z,Xc h hn m,rfl⟩
theorem FV.form(h:FV M v L):∃p cap,v= .slice p L.length cap/\L.length<=maxLen/\L.length<=cap:=by
 obtain ⟨Z,⟨p,cap,e,g,_⟩,rfl⟩:=h;rw [Bk];exact ⟨p,cap,e,g⟩
theorem FV.at{M:List A8}{p:BE}{n cap:Nat}{L:List RP}(h:FV M (.slice p n cap) L){i:Nat}{x:RP}(hx:L[i]?=some x):∃z:RPZ,z.x=x/\z.ok M/\∃g off cur T zz,p=some ⟨g,off,none⟩/\(g,Obj.cells cur T zz)∈M/\off+i*9+9<=cur.size/\cur.extract (off+i*9) (off+i*9+9)=#[I4 z.x.tb,I4 z.x.cl,I4 z.x.lo,I4 z.x.hi,I4 z.x.ct,I4 z.x.fi,.slice z.qr z.x.rows.length z.cr,.slice z.qp z.x.paths.length z.cp,.slice z.qt z.x.roots.length z.ct]:=by
 obtain ⟨Z,⟨G,m,e,_,B⟩,rfl⟩:=h;injection e with e1 e2 e3
 subst e1;rw [E6]at hx;cases hz:Z[i]?with
 |none=>rw [hz]at hx;cases hx
 |some z=>
  rw [hz]at hx;injection hx with hx
  exact ⟨z,hx,B i z hz⟩
variable{p:BE}{cap n:Nat}
theorem FV.tail(h:FV M (.slice p n cap) (x::L)):FV M (.slice (Ej p 1 cap 9) (n -1) (cap -1)) L:=by
 obtain ⟨Z,⟨W,J,e,⟨I,m⟩,G⟩,B⟩:=h;injection e with e1 e2 e3
 subst e1 e2 e3
 match Z,B,I,m,G with
 |z::Z,B,I,m,G=>
  injection B with hZ1 hZ2
  rw [F2]at I m;refine ⟨Z,⟨_,_,by rw [F2,S8],⟨by omega,by omega⟩,fun i y hy=>?_⟩,hZ2⟩;obtain ⟨h2,g,off,cur,T,zz,rfl,K,U,O⟩:=G (i+1) y (by simpa using hy);have hi:=(C7.1 hy).1
  refine ⟨h2,g,off+1*9,cur,T,zz,?_,K,by omega,by rw [show off+1*9+i*9=off+(i+1)*9 by omega];exact O⟩;unfold Ej;rw [As A0,PB,Cb]
def YD(q:QM)(r:AV):Int×Int×Int×Int:=(q.ot,0,Bj r q.bq,Bj r q.bq)
def ZY(q:QM):Int×Int×Int×Int:=(q.tb,q.cl,q.lo,q.hi)
def RP.scan(x:RP):Int×Int×Int×Int:=(x.tb,x.cl,x.lo,x.hi)
noncomputable def Pg(s:Int×Int×Int×Int):List RP->Option (List AV×List RP)
 |[]=>none
 |x::l=>if x.scan=s/\Jk x then some (Eb x,l)else none
noncomputable def Ex(q:QM):List AV->List RP->Option (List AV×List RP)
 |[],l=>some ([],l)
 |r::rs,l=>(Pg (YD q r) l).bind fun a=>(Ex q rs a.2).map fun b=>(a.1++b.1,b.2)
noncomputable def EJ(q:QM)(L:List RP):Option C8:=
 if BH q then(Pg (ZY q) L).bind fun a=>if a.1.length<=100 then(if q.kd=7 then Ex q a.1 a.2 else some ([],a.2)).bind fun b=>if b.2=[]then some (Fb q a.1 b.1)else none else none else none
theorem Te{s:Int×Int×Int×Int}{a:List AV×List RP}(h:Pg s L=some a):∃x,L=x::a.2/\x.scan=s/\Jk x/\a.1=Eb x:=by
 unfold Pg at h;split at h;· cases h
 · split at h
   · rename_i x l h9
     injection h with h
     subst h;exact ⟨x,V,h9.1,h9.2,V⟩
   · cases h
theorem WQ{s:Int×Int×Int×Int}{l:List RP}(g:x.scan=s)(h2:Jk x):Pg s (x::l)=some (Eb x,l):=Ax ⟨g,h2⟩
variable{q:QM}
theorem MW{r:AV}{rs:List AV}{l:List RP}{b:List AV×List RP}(h:Ex q (r::rs) l=some b):∃a c,Pg (YD q r) l=some a/\Ex q rs a.2=some c/\b=(a.1++c.1,c.2):=by
 unfold Ex at h;cases ha:Pg (YD q r) l with
 |none=>rw [ha]at h;cases h
 |some a=>
  rw [ha,LR]at h;cases hc:Ex q rs a.2 with
  |none=>rw [hc]at h;cases h
  |some c=>rw [hc]at h;injection h with h;exact ⟨a,c,rfl,hc,h.symm⟩
theorem Pf{q:QM}:∀(rows:List AV) (i:Nat) (L:List RP) (b:List AV×List RP),i<=rows.length->Ex q rows L=some b->∃o g,Ex q (rows.take i) L=some (o,g)/\∃m,Ex q (rows.drop i) g=some (m,b.2)/\b.1=o++m
 |rows,0,L,b,_,h=>⟨[],L,rfl,b.1,by rw [SU];exact h,rfl⟩
 |r::rows,i+1,L,b,hi,h=>by
  obtain ⟨a,c,B,h2,rfl⟩:=MW h;obtain ⟨o,g,G,m,I,J⟩:=Pf rows i a.2 c (by simpa using hi) h2;refine ⟨a.1++o,g,?_,m,by rw [List.drop_succ_cons];exact I,by rw [J,DH]⟩;rw [nc];unfold Ex;rw [B,LR,G];rfl
theorem RX{q:QM}:∀(rows:List AV) (i:Nat) (r:AV) (L l':List RP) (o:List AV) (a:List AV×List RP),rows[i]?=some r->Ex q (rows.take i) L=some (o,l')->Pg (YD q r) l'=some a->Ex q (rows.take (i+1)) L=some (o++a.1,a.2)
 |r9::rows,0,r,L,l',o,a,hr,h,ha=>by
  injection hr with hr
  subst hr;injection h with h
  injection h with g h2
  subst g h2;show Ex q [r9] L=_
  unfold Ex;rw [ha,LR];show some (a.1++[],a.2)=some ([]++a.1,a.2)
  rw [E7,N4]
 |r9::rows,i+1,r,L,l',o,a,hr,h,ha=>by
  rw [nc]at h⊢;obtain ⟨G,B,g,h2,m⟩:=MW h;injection m with m h4
  have:=RX rows i r G.2 B.2 B.1 a (by simpa using hr) h2 (by rw [<-h4];exact ha);unfold Ex;rw [g,LR,this,m,DH];rfl
variable{r:C8}
theorem RJ(h:EJ q L=some r):∃x g,L=x::g/\BH q/\x.scan=ZY q/\Jk x/\(Eb x).length<=100/\((q.kd≠7/\g=[]/\r=Fb q (Eb x) [])\/(q.kd=7/\∃o,Ex q (Eb x) g=some (o,[])/\r=Fb q (Eb x) o)):=by
 unfold EJ at h;split at h
 · rename_i hq
   cases ha:Pg (ZY q) L with
   |none=>rw [ha]at h;cases h
   |some a=>
    obtain ⟨x,m,h2,B,G⟩:=Te ha;rw [ha,LR]at h;split at h
    · rename_i h5
      rw [G]at h5 h;refine ⟨x,a.2,m,hq,h2,B,h5,?_⟩;split at h
      · rename_i h7
        cases hb:Ex q (Eb x) a.2 with
        |none=>rw [hb]at h;cases h
        |some b=>
         rw [hb,LR]at h;split at h
         · rename_i h8
           injection h with h
           exact .inr ⟨h7,b.1,by rw [<-h8],h.symm⟩
         · cases h
      · rename_i h7
        rw [LR]at h;split at h
        · rename_i h8
          injection h with h
          exact .inl ⟨h7,h8,h.symm⟩
        · cases h
    · cases h
 · cases h
def EN(rs:List AV)(q:QM):List RP:=Eh rs q.tb.toNat q.cl.toNat q.lo q.hi::(if q.kd=7 then(CU rs q).map fun r=>Eh rs q.ot.toNat 0 (Bj r q.bq) (Bj r q.bq)else [])
theorem Td{rs:List AV}(m:BM rs)(hn:rs.length<=2000)(g:∀r∈rs,r.ok){q:QM}(I:0<=q.ot/\q.ot<=3):∀l:List AV,Ex q l (l.map fun r=>Eh rs q.ot.toNat 0 (Bj r q.bq) (Bj r q.bq))=some (l.flatMap fun r=>Dw rs q.ot 0 (Bj r q.bq) (Bj r q.bq),[])
 |[]=>rfl
 |r::l=>by
  have e:((q.ot.toNat:Nat):Int)=q.ot:=by omega
  have B:=Lb m hn g q.ot.toNat 0 A0 A0 (Bj r q.bq) (Bj r q.bq) (Z1 _);have h2:=TU m hn g q.ot.toNat 0 A0 A0 (Bj r q.bq) (Bj r q.bq) (Z1 _)
  have G:=Td m hn g I l;rw [e]at h2;unfold Ex;rw [Fc,WQ (by show(((q.ot.toNat:Nat):Int),((0:Nat):Int),_,_)=(_,_,_,_);rw [e];rfl) B,LR];simp only [G,h2,PB,Hv]
theorem qi{f:AV->Bool}{g:AV->List AV}{y:AV}(B:∀a b,f a=true->f b=true->(∃r,a∈g r)->(∃r,b∈g r)->a=b):∀l:List AV,(∃r∈l,y∈g r)->f y=true->(l.flatMap g).find? f=some y:=fun l ⟨r,G,hy⟩ h=>by
 cases hfi:(l.flatMap g).find? f with
 |none=>exact absurd h (by simpa using nh.1 hfi y (Tr.2 ⟨r,G,hy⟩))
 |some x=>
  have m:=nw (p:=f) hfi;obtain ⟨I,_,hx⟩:=Tr.1 (my hfi);rw [B x y m h ⟨I,hx⟩ ⟨r,hy⟩]
theorem TA{rs:List AV}(G:BM rs)(hn:rs.length<=2000)(J:∀r∈rs,r.ok)(m:BH q)(hl:(CU rs q).length<=100):EJ q (EN rs q)=some (Cj rs q):=by
 have hk:=m.2.2.2;have hc:=m.2.1
 have ht:=m.1;obtain ⟨O,h2⟩:=xP G hn J q m;have K:=A39 (rs:=rs) m
 have af:(Eh rs q.tb.toNat q.cl.toNat q.lo q.hi).scan=ZY q:=by unfold RP.scan ZY;rw [K.1,K.2.1,K.2.2.1,K.2.2.2]
 unfold EJ EN;rw [Ax m,WQ af O,LR];simp only [h2];rw [show Dw rs q.tb q.cl.toNat q.lo q.hi=CU rs q from rfl,Ax hl];by_cases B:q.kd=7
 · rw [Ax B,Ax B,Td G hn J A0,LR,Ax rfl]
   unfold Cj Fb;simp only [As (show¬q.kd=3 by omega),As (show¬q.kd=4 by omega),As (show¬q.kd=5 by omega),As (show¬q.kd=6 by omega),Ax B];congr 2;unfold J7;have g:∀k x,x∈Dw rs q.ot 0 k k↔x∈rs/\x.t=q.ot/\x.k=k:=fun k x=>by
    rw [(Ec rs q.ot 0 k k).mem_iff,GF];unfold inR Dq;rw [HA,Ax rfl];constructor;· rintro ⟨a,b,c,d⟩;exact ⟨a,b,by omega⟩
    · rintro ⟨a,b,c⟩;exact ⟨a,b,by omega,by omega⟩
   have X:∀r∈CU rs q,J5 q ((CU rs q).flatMap fun r=>Dw rs q.ot 0 (Bj r q.bq) (Bj r q.bq)) r=J5 q (Ia rs q.ot) r:=fun r hr=>by
    unfold J5
    suffices e:Dm q ((CU rs q).flatMap fun r=>Dw rs q.ot 0 (Bj r q.bq) (Bj r q.bq)) (Bj r q.bq)=Dm q (Ia rs q.ot) (Bj r q.bq) by rw [e]
    cases hp:Dm q (Ia rs q.ot) (Bj r q.bq)with
    |none=>
     unfold Dm;refine nh.2 fun x hx I=>?_;obtain ⟨r',_,hx⟩:=Tr.1 hx;have U:=(g _ x).1 hx
     have W:x.t=q.ot/\x.k=Bj r q.bq:=by simpa using I
     have:=(Fz G (q:=q) (Bj r q.bq) x).2 ⟨U.1,W⟩;rw [hp]at this;cases this
    |some x=>
     have I:=(Fz G (q:=q) (Bj r q.bq) x).1 hp;unfold Dm;refine qi (fun a b ha hb ⟨r1,O⟩ ⟨r2,h2⟩=>?_) _ ⟨r,hr,(g _ x).2 ⟨I.1,I.2⟩⟩ (DE I.2);have a1:=(g _ a).1 O
     have b1:=(g _ b).1 h2;have a2:a.t=q.ot/\a.k=Bj r q.bq:=by simpa using ha
     have b2:b.t=q.ot/\b.k=Bj r q.bq:=by simpa using hb
     have a3:=(Fz G (q:=q) (Bj r q.bq) a).2 ⟨a1.1,a2⟩;have b3:=(Fz G (q:=q) (Bj r q.bq) b).2 ⟨b1.1,b2⟩
     rw [a3]at b3;injection b3
   have:∀l:List AV,(∀r∈l,J5 q ((CU rs q).flatMap fun r=>Dw rs q.ot 0 (Bj r q.bq) (Bj r q.bq)) r=J5 q (Ia rs q.ot) r)->l.flatMap (J5 q ((CU rs q).flatMap fun r=>Dw rs q.ot 0 (Bj r q.bq) (Bj r q.bq)))=l.flatMap (J5 q (Ia rs q.ot)):=fun l=>by
    induction l with
    |nil=>intro _;rfl
    |cons r l ih=>intro h;rw [Hv,Hv,h r B7,ih fun x hx=>h x (by simp [hx])]
   exact this _ X
 · rw [As B,As B,LR,Ax rfl]
   rw [<-qX m B,Pz m];rfl
theorem vJ(v:A2)(p:Int)(rs:List AV)(s:List A8)(hv:RG v p rs s)(K:BM rs)(hn:rs.length<=2000)(B:∀r∈rs,r.ok)(t c lo hi:Int)(O:0<=t/\t<=3)(hc:0<=c/\c<=3)(m:lo<=hi)(g:AM)(G:Nat×Nat):
 BS prog 98 #[v,I4 t,I4 c,I4 lo,I4 hi] [[(0,.cells (Dn.map CW).toArray g G)],s] (fun r H'=>∃(z:RPZ) (mem:List A8),z.x=Eh rs t.toNat c.toNat lo hi/\z.ok mem/\r= .tuple #[.agg #[I4 z.x.tb,I4 z.x.cl,I4 z.x.lo,I4 z.x.hi,I4 z.x.ct,I4 z.x.fi,.slice z.qr z.x.rows.length z.cr,.slice z.qp z.x.paths.length z.cp,.slice z.qt z.x.roots.length z.ct],I4 0]/\H'=[mem,[(0,.cells (Dn.map CW).toArray g G)],s]):=by
 have h:=iC v p rs s hv K hn B t.toNat c.toNat A0 A0 lo hi m g G;rw [show((t.toNat:Nat):Int)=t by omega,show((c.toNat:Nat):Int)=c by omega]at h;refine h.mono ?_;rintro r H' ⟨U,mem,rfl,J,rfl⟩;obtain ⟨z,I,h2,rfl⟩:=xO J;exact ⟨z,mem,I,h2,V,V⟩
theorem tf(Z:List RPZ):∀u∈Z.flatMap Eu,u.oneCell'=true:=by
 intro u g;obtain ⟨z,_,h⟩:=Tr.1 g;unfold Eu at h;simp only [DS,PA,PF]at h;rcases h with rfl|rfl|rfl|rfl|rfl|rfl|rfl|rfl|rfl<;>rfl
theorem yF(Z:List RPZ):(Z.flatMap Eu).length=Z.length*9:=by
 induction Z with
 |nil=>rfl
 |cons z Z ih=>rw [Hv,C0,ih,F2];show 9+_=_;omega
theorem U4(q:QM)(g:0<=q.bq/\q.bq<=3)(r:AV):Au prog 101 #[.agg q.BM5,.agg r.BM4] [] (.agg #[I4 q.ot,I4 0,I4 (Bj r q.bq),I4 (Bj r q.bq)]):=by
 refine Se func101 ntmps101 [0,1] ?_;intro u R;refine A3<|Ze (Bx q.BM5)<|AF fun bq=>Ze (Bx #[_,_,_,_,_])<|AF fun B=>Ze (Al mS #[_,_,_,_])<|AF fun m=>A4<|A3<|Zo Wh (A9 (cs:=#[_,_,_,_,_]) DM B6 Y B5 (by exact Az V)) ?_;refine Zh 5 DB V rfl A6 Y<|Zl AE Y ?_;refine Xr [_,_] Y Up Y V (GI r q.bq g) ?_;refine AH Y<|A3<|Zh 6 DB V rfl A6 Y<|Zl AE Y ?_;refine Zm Y<|Zm Y<|Zv (BN (vs:=[(0,_),(1,_),(2,_),(3,_)]) (cs:=#[_,_,_,_]) Y (Aa (pl:=#[(0,1),(1,1),(2,1),(3,1)]) mS R0 (fun _=>by kernel_rfl) rfl))<|Xe (BJ eC Y Y (by(simp [Value.oneCell',Value.cells];done)) Wu (by exact Dz rfl) G4 B0 (by exact BB _)) ?_;refine Z0<|Zn [4] ?_;refine Zx<|AL<|D7 V results101 Y Wh (Av isAgg216 eC Wn (Az V)) (by exact ⟨V,V⟩)
theorem tw(v:A2)(p:Int)(rs:List AV)(s:List A8)(hv:RG v p rs s)(hs:BM rs)(hn:rs.length<=2000)(W:∀r∈rs,r.ok)(t B lo hi:Int)(ht:0<=t/\t<=3)(hc:0<=B/\B<=3)(U:lo<=hi)(I:AM)(zg:Nat×Nat)(bs J:Nat){g:BE}{c:Nat}{G:List A8}(X:BU 9 145 (.slice g Z.length c) Z.length (Z.flatMap Eu) G)(hZ:Z.length<=1000000):BS prog 97 #[.agg #[I4 t,I4 B,I4 lo,I4 hi],I5 bs,I5 J] [[(0,.cells (Dn.map CW).toArray I zg)],s,[(bs,.cells #[v] 33 (0,0))],[(J,.cells #[.slice g Z.length c] 42 (0,0))],G] (fun r H'=>r=undef/\∃(z:RPZ) (mem:List A8) (g:BE) (c:Nat) (G:List A8),z.x=Eh rs t.toNat B.toNat lo hi/\z.ok mem/\BU 9 145 (.slice g (Z.length+1) c) (Z.length+1) ((Z++[z]).flatMap Eu) G/\H'=[mem,G,[(0,.cells (Dn.map CW).toArray I zg)],s,[(bs,.cells #[v] 33 (0,0))],[(J,.cells #[.slice g (Z.length+1) c] 42 (0,0))]]):=by
 have cO:=mL;obtain ⟨sp,mb,es,ck,lm,rfl,cu⟩:=id hv;refine Se func97 ntmps97 [0,1,2] ?_;intro u R;refine A3<|Ze (Bx #[_,_,_,_])<|AF fun bx=>A4<|A3<|Zl isAgg33 Y<|Zh 0 R0 V rfl A6 Y<|Zl AE Y<|Zh 1 R0 V rfl A6 Y<|Zl AE Y<|Zh 2 R0 V rfl A6 Y<|Zl AE Y<|Zh 3 R0 V rfl A6 Y<|Zl AE Y<|Zc [_,_,_,_,_] Y call98 Y V (vJ _ p rs s hv hs hn W t B lo hi ht hc U I zg) ?_;rintro _ _ ⟨_,⟨z,mem,ax,af,rfl,rfl⟩,rfl⟩;refine Zm Y<|Zd Y V<|Zd Y V<|Ze (Al bm #[_,_,_,_,_,_,_,_,_])<|AF fun bp=>Xe (Xw Hj #[I4 z.x.tb,I4 z.x.cl,I4 z.x.lo,I4 z.x.hi,I4 z.x.ct,I4 z.x.fi,.slice z.qr z.x.rows.length z.cr,.slice z.qp z.x.paths.length z.cp,.slice z.qt z.x.roots.length z.ct])<|B2 Y<|Zn [2,4] ?_;refine Zx<|Zg<|Zl PC Y<|Zo Wh (A9 (cs:=#[_,_,_,_,_,_,_,_,_]) RT Hj Y B5 B1)<|Ze (Ah (vs:=[_]) (cs:=[_,_,_,_,_,_,_,_,_]) N5 Hj bm Y V rfl V rfl V)<|AF fun gb=>Ze (BP (by_:=120) (sz:=9) N5 (V:Tryz.prog.info? 145=some Tryz.t145) V rfl V rfl Y (X) Y (Cu 9 gb 1 1 145 (0,0) (Eu z) V) Wo Wo (by have:=tf [z];simpa using this) A0 A0) ?_;rintro _ _ ⟨bn,m,rfl⟩;obtain ⟨O,K,rfl⟩:=m.form;refine Xe (Zs Lw Y Y rfl (hi:=by(simp;done)))<|Z0<|DC rfl results97 (by exact ⟨rfl,z,mem,O,K,bn,ax,af,BZ m rfl (by rw [On];simp),rfl⟩)
set_option maxHeartbeats 1000000 in
theorem xe(v:A2)(p:Int)(rs:List AV)(s:List A8)(hv:RG v p rs s)(hs:BM rs)(hn:rs.length<=2000)(gy:∀r∈rs,r.ok)(q:QM)(hq:BH q)(hl:(CU rs q).length<=100)(Tg:AM)(zg:Nat×Nat):BS prog 40 #[v,.agg q.BM5] [[(0,.cells (Dn.map CW).toArray Tg zg)],s] (fun w H'=>∃vo mem,w= .tuple #[vo,I4 0]/\FV mem vo (EN rs q)/\H'=[mem,[(0,.cells (Dn.map CW).toArray Tg zg)],s]):=by
 have qb:=mL;obtain ⟨sp,mb,es,ck,lm,rfl,pz⟩:=id hv;have d9:=hq.2.1
 have o9:=@Tf rs q.tb q.cl.toNat q.lo q.hi;have l9:0<=q.bq/\q.bq<=3:=by have:=hq.2.2.2;omega
 have o8:0<=q.ot/\q.ot<=3:=by have:=hq.2.2.2;omega
 refine Se func40 ntmps40 [0,1] ?_;intro u R;refine A3<|Ze (Bx #[_])<|AF fun bs=>Ze (Bx q.BM5)<|AF fun bq=>Za Y<|CT Y<|AQ<|A3<|Zl isAgg33 Y<|Zv (Bb mB Y Y)<|AH Y<|AY Y (fun cu=>by cases cu)<|fun cu=>A3<|Zo Wh (A9 (cs:=#[_,_,_,_,_,_,_]) Fm D4 Y B5 B1)<|Xr [_] Y call63 Y V (Js q)<|Zv (CG Y)<|AH Y<|AY Y (fun cO=>?_) (fun cO=>?_);·
  exfalso;simp [hq]at cO
 refine AC<|AA<|C6<|Ze (Al zeroValue42 #[_])<|AF fun bo=>A4<|A3<|Zv (Be (vs:=[]) (us:=[_,_]) Y Y)<|B2 Y<|Zn [2,3,6,7] ?_;refine C6<|Zo Wh (A9 (cs:=#[_,_,_,_,_,_,_]) Fm D4 Y B5 B1)<|Xr [_] Y call99 Y V (uO q hq)<|Ze (Al mS #[_,_,_,_])<|AF fun bx=>Xe (Xw eC #[I4 q.tb,I4 q.cl,I4 q.lo,I4 q.hi])<|A4<|A3<|Zl isAgg33 Y<|Zh 0 R0 V rfl A6 Y<|Zl AE Y<|Zh 1 R0 V rfl A6 Y<|Zl AE Y<|Zh 2 R0 V rfl A6 Y<|Zl AE Y<|Zh 3 R0 V rfl A6 Y<|Zl AE Y<|Zc [_,_,_,_,_] Y call100 Y V (nV _ p rs s hv q.tb q.cl q.lo q.hi d9) ?_;rintro _ _ ⟨_,⟨s1,h1,rfl⟩,rfl⟩;rw [show Dw rs q.tb q.cl.toNat q.lo q.hi=CU rs q from rfl]at h1 o9;obtain ⟨p1,c1,rfl⟩:=h1.form;obtain ⟨p7,pg,e7,⟨qa,pq⟩,l5⟩:=id (Dl h1 A0);injection e7 with e71 e72 e73
 subst e71 e73;refine B2 Y<|Zn [3,6,7,8,9] ?_;refine Zx<|B8 Y<|Zv (AR C2 Y)<|Zv (DX (n:=100) Y Y)<|A4<|Ak Y (fun kv=>by omega)<|fun kv=>B3<|Zq<|Bc<|Zg<|Zm Y<|Zo Wh (A9 (cs:=#[_,_,_,_]) isAgg216 eC Y B5 B1)<|Zc [_] Y call97 Y V (tw _ p rs s hv hs hn gy q.tb q.cl q.lo q.hi hq.1 d9 hq.2.2.1.2.1 Tg zg bs bo (Z:=[]) (Bh 9 _) (CM _)) ?_;rintro _ _ ⟨_,⟨rfl,z0,FN,g0,c0,ax,j3,U,O,rfl⟩,rfl⟩;refine A4<|Zb [3,7,9,6] ?_;refine CP (e0:=[(3,_),(7,_),(9,_)]) (H0:=[[(bo,.cells #[.slice g0 (([]:List RPZ).length+1) c0] 42 (0,0))],ax,FN]) (fun e H=>∃(Z:List RPZ) (g:BE) (c:Nat) (I B:List A8),(Z.map RPZ.x=EN rs q/\(∀z∈Z,z.ok B)/\BU 9 145 (.slice g Z.length c) Z.length (Z.flatMap Eu) I/\Z.length<=1000)/\e=[]/\H=[[(bo,.cells #[.slice g Z.length c] 42 (0,0))],I,B]) Wp ?hx_1 ?hy_1
 case hx_1=>
  refine A3<|Zh 0 DB V rfl A6 Y<|Zl AE Y<|Zv (CO Y Y)<|A4<|Ak Y (fun af=>?_) (fun af=>?_);·
   refine AK Y<|Zv (AR C2 Y)<|Zm Y<|A4<|AQ<|Zb [43,3,6,7,41,42] ?_;refine Aw (e0:=[(43,_)]) (fun m e H=>∃(k:Nat) (Z:List RPZ) (g:BE) (c:Nat) (I B:List A8),m=(CU rs q).length -k/\(k<=(CU rs q).length/\Z.map RPZ.x=Eh rs q.tb.toNat q.cl.toNat q.lo q.hi::((CU rs q).take k).map (fun r=>Eh rs q.ot.toNat 0 (Bj r q.bq) (Bj r q.bq))/\(∀z∈Z,z.ok B)/\Z.length=k+1/\BU 9 145 (.slice g Z.length c) Z.length (Z.flatMap Eu) I)/\e=[(43,I4 (k:Int))]/\H=[[(bo,.cells #[.slice g Z.length c] 42 (0,0))],I,B]) (by exact ⟨0,[z0],g0,c0,ax,FN,rfl,⟨CM _,by rw [JT,Lk,S0,j3],fun z hz=>by rw [CH.1 hz];exact U,rfl,O⟩,rfl,rfl⟩) Wp ?_;rintro _ _ _ ⟨k,Z,g,c,I,B,rfl,⟨hk,G,J,bn,K⟩,rfl,rfl⟩;refine A3<|Zv (Ap Y Y)<|A4<|Zq<|Ak Y (fun gq=>?_) (fun gq=>?_);·
    obtain ⟨X,gQ⟩:∃X,(CU rs q)[k]?=some X:=⟨_,BT gq⟩;obtain ⟨g8,off,cur,T,zz,rfl,l8,q9,gm⟩:=l5 k X gQ;refine B3<|Zq<|AQ<|A3<|BX (AZ C2 B6 Y Y A0)<|Bu (cs:=[(g8,.cells cur T zz)]) (by simp [l8]) (A9 (cs:=X.BM4) DM B6 Y A0 gm) V rfl<|Ze (Al Ft #[_,_,_,_,_])<|AF fun bx=>Xe (Xw B6 X.BM4)<|A4<|Zg<|Zm Y<|Zo Wh (A9 (cs:=#[_,_,_,_,_,_,_]) Fm D4 Y B5 B1)<|Zo Wh (A9 (cs:=#[_,_,_,_,_]) DM B6 Y B5 B1)<|Xr [_,_] Y call101 Y V (U4 q l9 X)<|Zc [_] Y call97 Y V (tw _ p rs s hv hs hn gy q.ot 0 (Bj X q.bq) (Bj X q.bq) o8 A0 (Z1 _) Tg zg bs bo K A0) ?_;rintro _ _ ⟨_,⟨rfl,z5,W,g5,c5,p9,p8,j5,ic,rfl⟩,rfl⟩;refine Z0<|AA<|Zx<|Cc (s1:=W) (s2:=B) Wo Wo ?_;refine Dg Y Y Y<|DG (e:=[(43,_)]) (h:=by exact ⟨k+1,Z++[z5],g5,c5,p9,W++B,rfl,⟨by omega,by rw [CN,G,Bl gQ,CN,S0,p8];rfl,fun z hz=>by rcases CD.1 hz with h9|h9;exact (J z h9).mono (fun c hc=>HK _ hc);rw [CH.1 h9];exact j5.mono (fun c hc=>G1 _ hc),by rw [C0,bn];rfl,by rw [C0];exact ic⟩,rfl,by rw [C0]⟩)
   have ek:k=(CU rs q).length:=by omega
   subst ek;rw [HE]at G;refine BA<|Zt<|Zt<|AX<|HB (e:=[]) (h:=by exact ⟨Z,_,_,I,B,⟨by unfold EN;rw [Ax af];exact G,J,K,by omega⟩,rfl,rfl⟩)
  refine AC<|HB (e:=[]) (h:=by exact ⟨[z0],g0,c0,ax,FN,⟨by unfold EN;rw [As af,S0,j3],fun z hz=>by rw [CH.1 hz];exact U,O,by simp⟩,rfl,rfl⟩)
 rintro _ _ ⟨Z,g,c,I,B,⟨G,J,K,bn⟩,rfl,rfl⟩;refine Zq<|Cc (s1:=I) (s2:=B) Wo Wo ?_;refine Zg<|Zl PC Y<|Za Y<|An Y<|DR rfl results40 Y Y (by exact ⟨.slice g Z.length c,I++B,rfl,by rw [<-G];exact A21 K A0 J,rfl⟩)
set_option maxHeartbeats 1000000 in
theorem uo{p9:BE}{m:Nat}(hL:FV M (.slice p9 (L.length+1) m) (x::L))(G:Jk x){t c lo hi:Int}(B:x.scan=(t,c,lo,hi))(U:Nat):BS prog 157 #[I5 U,.agg #[I4 t,I4 c,I4 lo,I4 hi]] [[(U,.cells #[.slice p9 (L.length+1) m] 279 (0,0))],M] (fun r H'=>∃O,BU 5 83 r (Eb x).length (Ae (Eb x)) O/\H'=[O,[(U,.cells #[.slice (Ej p9 1 m 9) L.length (m -1)] 279 (0,0))],M]):=by
 have cO:=mL;obtain ⟨p8,bn,e9,W,J⟩:=hL.form;injection e9 with e91 e92 e93
 subst e91 e93;rw [F2]at W J;obtain ⟨z,ax,af,g,off,cur,T,zz,rfl,X,cu,I⟩:=hL.at (i:=0) rfl;subst ax;unfold RP.scan at B;injection B with hd1 B
 injection B with hd2 B
 injection B with hd3 hd4
 refine Se func157 ntmps157 [0,1] ?_;intro u R;refine A3<|Ze (Bx #[_,_,_,_])<|AF fun bx=>AH Y<|AK Y<|Zp Y V<|Zh 0 iu V rfl Lw Y<|Zl PC Y ?_;refine Zv (AR N5 Y)<|Zv (DX (n:=0) Y Y) ?_;rw [DE (show(0:Nat)<L.length+1 by omega)];refine Xr [_] Y call156 Y V (Kr) ?_;refine A4<|AK Y<|Zp Y V<|Zh 0 iu V rfl Lw Y<|Zl PC Y ?_;refine BX (AZ (j:=0) N5 Hj Y Y A0)<|Bu (cs:=[(g,.cells cur T zz)]) (by simp [X]) (A9 (cs:=#[_,_,_,_,_,_,_,_,_]) RT Hj Y A0 I) V rfl ?_;refine Ze (Al bm #[_,_,_,_,_,_,_,_,_])<|AF fun bp=>Xe (Xw Hj #[I4 z.x.tb,I4 z.x.cl,I4 z.x.lo,I4 z.x.hi,I4 z.x.ct,I4 z.x.fi,.slice z.qr z.x.rows.length z.cr,.slice z.qp z.x.paths.length z.cp,.slice z.qt z.x.roots.length z.ct]) ?_;refine Z0<|Zn [0,3,5] ?_;refine Zx<|AK Y<|Zm Y<|Zp Y V<|Zh 0 iu V rfl Lw Y<|Zl PC Y ?_;refine BX (Bz (l:=1) N5 Hj Y Y A0)<|Zp Y V<|Zh 0 iu V rfl Lw Y<|Xe (Zs Lw Y Y V (hi:=by(simp;done))) ?_;refine A4<|A3<|Zh 0 DA V rfl A6 Y<|Zl AE Y (hv:=by exact (V:_=some (Value.int .i64 z.x.tb))) ?_;refine Zh 1 DA V rfl A6 Y<|Zl AE Y (hv:=by exact (V:_=some (Value.int .i64 z.x.cl))) ?_;refine Zh 2 DA V rfl A6 Y<|Zl AE Y (hv:=by exact (V:_=some (Value.int .i64 z.x.lo))) ?_;refine Zh 3 DA V rfl A6 Y<|Zl AE Y (hv:=by exact (V:_=some (Value.int .i64 z.x.hi))) ?_;refine Zv (BN (vs:=[(0,I4 z.x.tb),(1,I4 z.x.cl),(2,I4 z.x.lo),(3,I4 z.x.hi)]) (cs:=#[I4 z.x.tb,I4 z.x.cl,I4 z.x.lo,I4 z.x.hi]) Y (Aa (pl:=#[(0,1),(1,1),(2,1),(3,1)]) mS R0 (fun _=>by kernel_rfl) AD))<|Zo Wh (A9 (cs:=#[_,_,_,_]) isAgg216 eC Y B5 B1) ?_;refine Zv (au AD R0 AD B0 B0 B0 B0 D3 AE Y Y) ?_;rw [DE (show z.x.tb=t/\z.x.cl=c/\z.x.lo=lo/\z.x.hi=hi from⟨hd1,hd2,hd3,hd4⟩)];refine Xr [_] Y call156 Y V (Kr) ?_;refine Z0<|Zn [5] ?_;refine C6<|Zo Wh (A9 (cs:=#[_,_,_,_,_,_,_,_,_]) RT Hj Y B5 B1) ?_;refine Zc [_] Y call233 Y V (xS af.rp G V) ?_;rintro _ _ ⟨_,⟨vr,O,rfl,K,rfl⟩,rfl⟩;obtain ⟨gr,c9,rfl⟩:=K.form
 refine Zm Y<|Zd Y V<|Zd Y V<|Za Y<|AH Y<|AK Y<|Xr [_] Y call156 Y V (Kr) ?_;refine A4<|AK Y<|An Y<|AO V results157 Y (by exact ⟨O,K,V⟩)
theorem Pb(h:Jk x):(Eb x).length<=2000/\∀r∈Eb x,r.ok:=by
 have B:=h.ct;have h2:=h.fi
 have G:=h.n;rw [gP h];refine ⟨by have:=Tl (inB x) x.rows;omega,fun r m=>?_⟩;obtain ⟨j,g⟩:=HU (GF.1 m).1;exact (h.all j r g).1.1
theorem jo{α:Type}{l:List α}{k:Nat}{x:α}(h:l[k]?=some x):l.drop k=x::l.drop (k+1):=by
 obtain ⟨g,rfl⟩:=C7.1 h;exact TX g
set_option maxHeartbeats 1000000 in
theorem Xu(hL:FV M v L)(q:QM)(hr:EJ q L=some r):BS prog 86 #[.agg q.BM5,v] [M] (fun w H'=>∃rv sr,w= .tuple #[.agg #[rv,I4 r.val,.bool r.fnd],.bool true]/\BU 5 83 rv r.rows.length (Ae r.rows) sr/\H'=[sr,M]):=by
 have sw:=mL;obtain ⟨x,L2,rfl,hq,qb,K,p9,J⟩:=RJ hr;obtain ⟨pv,cv,rfl,_⟩:=hL.form;rw [F2]at hL;rw [F2];have hT:=hL.tail
 rw [S8]at hT;have pz:0<=q.bq/\q.bq<=3:=by have:=hq.2.2.2;omega
 refine DF func86 V ntmps86 V ?_;intro u R;refine Zb [0,1] ?_;refine A3<|Ze (Bx q.BM5)<|AF fun bq=>Ze (Al HS #[_,_,_])<|AF fun bo=>Ze (Al V1 #[_])<|AF fun bk=>A4<|A3<|Zv (Be (vs:=[]) (us:=[_,_]) Y Y)<|ol V Y ?_;refine A4<|A3<|Xe (Zs F1 Y Y V (hi:=by decide))<|A4<|A3<|il V Y ?_;refine A4<|A3<|Zo Wh (A9 (cs:=#[_,_,_,_,_,_,_]) Fm D4 Y B5 B1)<|Xr [_] Y call63 Y V (Js q) ?_;rw [DE hq];refine Xr [_] Y call156 Y V (Kr)<|A4<|AK Y<|Zv (BN (vs:=[(0,_)]) (cs:=#[_]) Y (Aa (pl:=#[(0,1)]) zeroValue279 iu (fun _=>by kernel_rfl) V))<|Ze (Bx #[_])<|AF fun br=>B2 Y<|Zn [2,4,5,6] ?_;refine Zx<|AK Y<|Zo Wh (A9 (cs:=#[_,_,_,_,_,_,_]) Fm D4 Y B5 B1)<|Xr [_] Y call99 Y V (uO q hq)<|Zc [_,_] Y call157 Y V (uo hL K qb br) ?_;rintro _ _ ⟨_,⟨sr,j5,rfl⟩,rfl⟩;obtain ⟨gr,qx,rfl⟩:=j5.form;have gq:=Dl j5 A0
 obtain ⟨p7,qj,e7,⟨sj,ql⟩,p8⟩:=id gq;injection e7 with e71 e72 e73
 subst e71 e73;refine AH Y<|AK Y<|Zv (AR C2 Y)<|Zv (Wx (n:=100) Y Y) ?_;rw [DE (show(Eb x).length<=100 by omega)];refine Xr [_] Y call156 Y V (Kr)<|A4<|Zq<|Bc<|Zg<|AH Y<|Zb [8,2,4,5,6,7] ?_;refine CP (e0:=[(8,_)]) (H0:=[[(br,.cells #[_] 279 (0,0))],[]]) (fun e H=>∃(o:List AV) (vo:A2) (so:List A8) (pr:BE) (cr:Nat),(r=Fb q (Eb x) o/\BU 5 83 vo o.length (Ae o) so/\o.length<=200000)/\e=[(8,vo)]/\H=[[(br,.cells #[.slice pr 0 cr] 279 (0,0))],so]) Wp ?hx_1 ?hy_1
 case hx_1=>
  refine A3<|Zh 0 DB V rfl A6 Y<|Zl AE Y<|Zv (CO Y Y)<|A4<|Ak Y (fun cu=>?_) (fun cu=>?_);·
   obtain ⟨O,X,ax⟩:∃o,Ex q (Eb x) L2=some (o,[])/\r=Fb q (Eb x) o:=by rcases J with⟨h9,_⟩|⟨_,h9⟩;exact absurd cu h9;exact h9
   refine AK Y<|Zv (AR C2 Y)<|Zm Y<|A4<|AQ<|Zb [8,31,2,4,5,6,7,29,30] ?_;refine Aw (e0:=[(8,_),(31,_)]) (fun m e H=>∃(k:Nat) (o:List AV) (l9:List RP) (vo:A2) (so:List A8) (pr:BE) (cr:Nat),m=(Eb x).length -k/\(k<=(Eb x).length/\Ex q ((Eb x).take k) L2=some (o,l9)/\BU 5 83 vo o.length (Ae o) so/\FV M (.slice pr l9.length cr) l9/\o.length<=2000*k)/\e=[(8,vo),(31,I4 (k:Int))]/\H=[[(br,.cells #[.slice pr l9.length cr] 279 (0,0))],so]) (by exact ⟨0,[],L2,.slice none 0 0,[],_,_,V,⟨CM _,V,Bh 5 _,hT,CM _⟩,V,V⟩) Wp ?_;rintro _ _ _ ⟨k,o,l9,vo,so,pr,cr,rfl,⟨hk,G,I,bn,sJ⟩,rfl,rfl⟩;obtain ⟨go,co,rfl⟩:=I.form;refine A3<|Zv (Ap Y Y)<|A4<|Zq<|Ak Y (fun ic=>?_) (fun ic=>?_);·
    obtain ⟨r9,cO⟩:∃r9,(Eb x)[k]?=some r9:=⟨_,BT ic⟩;obtain ⟨g,off,cur,T,zz,rfl,pq,qo,gy⟩:=p8 k r9 cO;obtain ⟨o8,l8,U,o9,d9,_⟩:=Pf (Eb x) k L2 (O,[]) A0 X;rw [G]at U;injection U with U
    injection U with h83 h84
    subst h83 h84;rw [jo cO]at d9;obtain ⟨a9,c9,gm,_,_⟩:=MW d9;obtain ⟨x2,gQ,j3,B,W⟩:=Te gm;have pg:=(Pb B).1
    have qh:=RX (Eb x) k r9 L2 _ _ a9 cO G gm;rw [gQ,F2];rw [gQ,F2]at bn;refine B3<|Zq<|AQ<|A3<|BX (AZ C2 B6 Y Y A0)<|Bu (cs:=[(g,.cells cur T zz)]) (by simp [pq]) (A9 (cs:=r9.BM4) DM B6 Y A0 gy) V rfl<|Ze (Al Ft #[_,_,_,_,_])<|AF fun bx=>Xe (Xw B6 r9.BM4)<|A4<|Zg<|Zm Y<|Zm Y<|Zo Wh (A9 (cs:=#[_,_,_,_,_,_,_]) Fm D4 Y B5 B1)<|Zo Wh (A9 (cs:=#[_,_,_,_,_]) DM B6 Y B5 B1)<|Xr [_,_] Y call101 Y V (U4 q pz r9)<|Zc [_,_] Y call157 Y V (uo bn B j3 br) ?_;rintro _ _ ⟨_,⟨s5,h5,rfl⟩,rfl⟩;rw [<-W]at h5;obtain ⟨g5,c5,rfl⟩:=h5.form;refine Ze (BP (by_:=40) (sz:=5) C2 (rfl:Tryz.prog.info? 83=some Tryz.t83) rfl rfl rfl rfl Y (I) Y (lI h5) Wo Wo (by exact CX _) (by rw [W];omega) (by rw [W];omega)) ?_;rintro _ _ ⟨ve,af,rfl⟩;obtain ⟨qz,qw,rfl⟩:=af.form;refine B2 Y<|Zn [2,4,5,6,7,8,29,30,31] ?_;refine AA<|Zx<|Dg Y Y Y<|DG (e:=[(8,_),(31,_)]) (h:=by exact ⟨k+1,o++a9.1,a9.2,_,_,_,_,rfl,⟨by omega,qh,BZ af (by rw [C0]) (by rw [Bt]),bn.tail,by rw [C0,W];omega⟩,rfl,rfl⟩)
   have ek:k=(Eb x).length:=by omega
   subst ek;rw [HE,X]at G;injection G with G
   injection G with hrd1 hrd2
   subst hrd1 hrd2;have sO:=ax
   refine BA<|Zt<|Zt<|AX<|Hh (by exact ⟨O,.slice go O.length co,so,pr,cr,⟨ax,I,by omega⟩,V,V⟩)
  obtain ⟨kv,qa⟩:L2=[]/\r=Fb q (Eb x) []:=by rcases J with⟨_,h9⟩|⟨h9,_⟩;exact h9;exact absurd h9 cu
  subst kv;refine AC<|Hh (by exact ⟨[],.slice none 0 0,[],Ej pv 1 cv 9,cv -1,⟨qa,Bh 5 _,CM _⟩,V,V⟩)
 rintro _ _ ⟨o,vo,so,pr,cr,⟨q9,I,sM⟩,rfl,rfl⟩;obtain ⟨go,co,rfl⟩:=I.form;have l5:=Dl I A0
 refine AK Y<|Zp Y V<|Zh 0 iu V rfl Lw Y<|Zl PC Y<|Zv (AR N5 Y)<|Zv (CJ (n:=0) Y Y) ?_;rw [DE (show(0:Nat)=0 from rfl)];refine Xr [_] Y call156 Y V (Kr)<|A4<|A3<|Zo Wh (A9 (cs:=#[_,_,_,_,_,_,_]) Fm D4 Y B5 B1)<|Zm Y<|Zm Y<|Zc [_,_,_] Y call158 Y V (A90 gq l5 q A0 (fun _ r hr=>Xo ((Pb K).2 r hr) q.bq)) ?_;rintro _ _ ⟨_,⟨sQ,s3,rfl,h3,rfl⟩,rfl⟩;rw [Pz hq,<-q9]at h3⊢;obtain ⟨p3,c3,rfl⟩:=h3.form;refine Xe (Xw C5 #[.slice p3 r.rows.length c3,I4 r.val,.bool r.fnd])<|Xe (Zs F1 Y Y V (hi:=by decide))<|Z0<|Zn [4,5] ?_;refine Zx<|AL<|A59 V rfl call155 (wh _) V call154 (xI bk _) Wp ?_;rintro _ rfl;refine ⟨_,[s3,M],fun a w hf hs=>VJ results86 ((Ce a _ hf 4).trans rfl) (Av EV C5 (by exact D0 _) (cs:=#[.slice p3 r.rows.length c3,I4 r.val,.bool r.fnd]) (Az rfl) w (dF (b:=bo) Wh hs)) ((Ce a _ hf 5).trans rfl) (bJ G0 (v:= .bool true) (i:=0) rfl w (dF (b:=bk) Wh hs)),⟨_,s3,rfl,h3,rfl⟩,Sub.amid (by repeat(first|exact Sub.refl _|exact Sub.nil _|(apply Sub.cons;(focus (repeat(first|exact One.here _ _|apply One.there))))|refine Sub.drop _ ?_))⟩
theorem Oc{α:Type}(f:α->List A2)(sz:Nat)(W:∀a,(f a).length=sz)(h0:0<sz){l:List α}(X:∀(i:Nat) (a:α),l[i]?=some a->∃g off cur T zz,p=some ⟨g,off,none⟩/\(g,Obj.cells cur T zz)∈M/\off+i*sz+sz<=cur.size/\cur.extract (off+i*sz) (off+i*sz+sz)=(f a).toArray):FX M p (l.flatMap f):=by
 intro j u J;have B:(l.flatMap f).length=l.length*sz:=by
  clear X J;induction l with
  |nil=>simp
  |cons a l ih=>rw [Hv,C0,ih,W,F2,Mp];omega
 have m:=(C7.1 J).1;rw [B]at m;have hd:=Nat.div_add_mod j sz
 have hm:=ir j h0;have hi:j/sz<l.length:=sE (by rw [oX];exact m)
 obtain ⟨a,U⟩:∃a,l[j/sz]?=some a:=⟨_,BT hi⟩;obtain ⟨g,off,cur,T,zz,rfl,G,K,I⟩:=X (j/sz) a U;refine ⟨g,off,cur,T,zz,V,G,?_⟩;have h1:=Q5 I K (j%sz) hm
 have h2:=Gi f sz W l (j/sz) a U;have e1:j/sz*sz+j%sz=j:=by rw [oX];exact hd
 have O:(l.flatMap f)[j/sz*sz+j%sz]?=(f a)[j%sz]?:=by rw [<-h2,HR,Ax hm,Pc]
 rw [e1,J]at O;rw [show off+j=off+j/sz*sz+j%sz by omega,h1,fy];exact O.symm
theorem nA(h:ZsU M (.slice p n cap) Z):FX M p (Z.flatMap Eu):=by
 obtain ⟨B,g,e,_,m⟩:=h;injection e with e1 e2 e3
 subst e1;exact Oc _ 9 (fun _=>rfl) B0 fun i z hz=>(m i z hz).2
variable{l:List BF}
theorem gY(h:Dx M (.slice p n cap) l):FX M p (Da l):=by
 obtain ⟨B,g,e,_,m⟩:=h;injection e with e1 e2 e3
 subst e1;exact Oc _ 2 (fun _=>rfl) B0 fun i z hz=>(m i z hz).2
theorem VL(l:List BF):(Da l).length=l.length*2:=by
 induction l with
 |nil=>rfl
 |cons a l ih=>unfold Da at*;rw [Hv,C0,ih];simp only [F2,MY];omega
theorem Y9(l:List BF):∀u∈Da l,u.oneCell'=true:=by
 intro u g;obtain ⟨z,_,h⟩:=Tr.1 g;simp only [DS,PA,PF]at h;rcases h with rfl|rfl<;>rfl
structure Nq where
 q:QM
 res:C8
 since:Int
 until_:Int
 base:Int
 ranges:List RP
 recs:List BF
structure Ox where
 a:Nq
 rp:BE
 rc:Nat
 gp:BE
 gc:Nat
 cp:BE
 cc:Nat
abbrev Ox.BM6(c:Ox):Array Go.Value:=#[I4 c.a.q.kd,I4 c.a.q.tb,I4 c.a.q.cl,I4 c.a.q.lo,I4 c.a.q.hi,I4 c.a.q.bq,I4 c.a.q.ot,.slice c.rp c.a.res.rows.length c.rc,I4 c.a.res.val,.bool c.a.res.fnd,I4 c.a.since,I4 c.a.until_,I4 c.a.base,.slice c.gp c.a.ranges.length c.gc,.slice c.cp c.a.recs.length c.cc]
def Ox.ok(M:List A8)(z:Ox):Prop:=Dp M (.slice z.rp z.a.res.rows.length z.rc) z.a.res.rows/\FV M (.slice z.gp z.a.ranges.length z.gc) z.a.ranges/\Dx M (.slice z.cp z.a.recs.length z.cc) z.a.recs
theorem MV(h:Dx M v l)(K:∀c∈M,c∈M'):Dx M' v l:=by
 obtain ⟨p,cap,e,U,O⟩:=h;refine ⟨p,cap,e,U,fun i r W=>?_⟩;obtain ⟨⟨X,cap2,e2,J,I⟩,g,off,cur,T,zz,m,B,G⟩:=O i r W;refine ⟨⟨X,cap2,e2,J,fun j c hc=>?_⟩,g,off,cur,T,zz,m,K _ B,G⟩;obtain ⟨g,off,cur,T,zz,m,B,G⟩:=I j c hc;exact ⟨g,off,cur,T,zz,m,K _ B,G⟩
theorem Ox.ok.mono{z:Ox}(h:z.ok M)(g:∀c∈M,c∈M'):z.ok M':=⟨h.1.mono g,h.2.1.mono g,MV h.2.2 g⟩
noncomputable def Fh(q:QM)(base:Int)(L:List RP)(recs:List BF):Option Nq:=(EJ q L).bind fun r=>if recs.length<=64 then(Fs q base 0 (r,base) recs).map fun st=>⟨q,st.1,st.2,base+(recs.length:Int),base,L,recs⟩else none
variable{base:Int}
theorem kN{recs:List BF}(h:¬recs.length<=64):Fh q base L recs=none:=by
 unfold Fh;cases EJ q L with
 |none=>rfl
 |some r=>rw [LR,As h]
theorem Kt{recs:List BF}(g:EJ q L=some r)(h:recs.length<=64):Fh q base L recs=(Fs q base 0 (r,base) recs).map fun st=>⟨q,st.1,st.2,base+(recs.length:Int),base,L,recs⟩:=by
 unfold Fh;rw [g,LR,Ax h]
theorem MU(h:(BI q r base l).2.2=true):Fs q base 0 (r,base) l=some ((BI q r base l).1,(BI q r base l).2.1):=by
 unfold BI at*;split at h;· rename_i st h9;rw [h9]
 · cases h
theorem aP(h:(BI q r base l).2.2=false):Fs q base 0 (r,base) l=none:=by
 unfold BI at*;split at h;· cases h
 · rename_i h9;exact h9
theorem mI(hq:BH q){rows g:List AV}(hl:rows.length<=100)(I:∀r∈rows,r.ok):(Fb q rows g).rows.length<=200/\-1000000000000000000<=(Fb q rows g).val/\(Fb q rows g).val<=1000000000000000000:=by
 have G:=lZ (q:=q) (rows:=rows) (fun r hr=>Xo (I r hr) q.bq);have B:(Cz q rows).length<=1000000000:=by rw [Kg];omega
 have hj:=UR q rows g;have hx:∀(lt:Int->Int->Bool) (hlt:∀a b c,lt b a=false->lt c b=false->lt c a=false) (hirr:∀a,lt a a=false) (hasy:∀a b,lt a b=true->lt b a=false),(Ei lt (Cz q rows)).rows.length<=200/\-1000000000000000000<=(Ei lt (Cz q rows)).val/\(Ei lt (Cz q rows)).val<=1000000000000000000:=fun lt O U W=>by
  cases hms:Cz q rows with
  |nil=>exact ⟨CM _,by show(_:Int)<=0;decide,by show(0:Int)<=_;decide⟩
  |cons z ms=>
   obtain ⟨x,J,_,K⟩:=Kn lt O U W z ms;rw [K];rw [hms]at G;have:=G x J
   exact ⟨CM _,by show _<=x;omega,by show x<=_;omega⟩
 have m:=lG G B (Cz q rows).length;rw [HE]at m;unfold Fb;split;· exact ⟨CM _,by simp only;omega,by simp only;omega⟩
 · split
   · exact ⟨CM _,m⟩
   · split
     · exact hx _ (fun a b c X h2=>by simp only [Q1]at*;omega) (fun a=>by simp) (fun a b h=>by simp only [HA,Q1]at*;omega)
     · split
       · exact hx _ (fun a b c X h2=>by simp only [Q1]at*;omega) (fun a=>by simp) (fun a b h=>by simp only [HA,Q1]at*;omega)
       · split
         · exact ⟨by simp only;omega,by simp only;decide,by simp only;decide⟩
         · exact ⟨by simp only;omega,by simp only;decide,by simp only;decide⟩
variable{sz:Nat}{e:AM}{xs:List A2}
theorem Qc(h:BU sz e v n xs s):n<=maxLen:=by
 obtain ⟨_,⟨_,h0,_⟩|⟨_,_,_,_,_,_,g,h2,_⟩⟩:=h;· omega
 · omega
theorem PR(h:EJ q L=some r):BH q/\r.rows.length<=200/\-1000000000000000000<=r.val/\r.val<=1000000000000000000:=by
 obtain ⟨x,G,_,g,_,hc,m,B⟩:=RJ h;refine ⟨g,?_⟩;rcases B with⟨_,_,rfl⟩|⟨_,o,_,rfl⟩
 · exact mI g m (Pb hc).2
 · exact mI g m (Pb hc).2
theorem Lx(hv:ZsU M v Z)(hb:Z.length<=1000000):BS prog 123 #[v] [M] (fun r H'=>∃K,BU 9 145 r Z.length (Z.flatMap Eu) K/\H'=[K,M]):=by
 have X:=mL;have B:=hv
 obtain ⟨p,cap,rfl,⟨hl,W⟩,U⟩:=id hv;replace B:=nA B;refine Se func123 ntmps123 [0] ?_;intro u R;refine A3<|AH Y<|B8 Y<|Zv (De N5 Y Y)<|A4<|AY Y (fun J=>?_) (fun J=>?_);·
  have G:p=none:=by cases p with
   |none=>rfl
   |some x=>cases J
  have h0:Z=[]:=by
   cases Z with
   |nil=>rfl
   |cons x l=>obtain ⟨_,g,off,cur,T,zz,I,_⟩:=U 0 x rfl;rw [G]at I;cases I
  refine Zq<|Bc<|Zg<|An Y<|Zt<|AO rfl results123 Y (by exact ⟨[],by rw [h0];exact Bh 9 _,rfl⟩)
 refine AC<|C6<|Ze (EE N5 Hj)<|AF fun O=>Zm Y<|Ze (IA (by_:=120) (sz:=9) N5 (V:Tryz.prog.info? 145=some Tryz.t145) V rfl V rfl Y (H6 9 145 O 0 [] V B0) Y (B) (by exact yF _) B0 Wo Wo (by exact tf _) A0 A0) ?_;rintro _ _ ⟨af,m,rfl⟩;replace m:=BZ m (Dd _) (N4 _);refine An Y<|AO V results123 Y (by exact ⟨_,m,V⟩)
theorem KI{Z:List BF}(hv:Dx M v Z)(hb:Z.length<=1000000):BS prog 44 #[v] [M] (fun r H'=>∃K,BU 2 55 r Z.length (Da Z) K/\H'=[K,M]):=by
 have X:=mL;have B:=hv
 obtain ⟨p,cap,rfl,⟨hl,W⟩,U⟩:=id hv;replace B:=gY B;refine Se func44 ntmps44 [0] ?_;intro u R;refine A3<|AH Y<|B8 Y<|Zv (De G2 Y Y)<|A4<|AY Y (fun J=>?_) (fun J=>?_);·
  have G:p=none:=by cases p with
   |none=>rfl
   |some x=>cases J
  have h0:Z=[]:=by
   cases Z with
   |nil=>rfl
   |cons x l=>obtain ⟨_,g,off,cur,T,zz,I,_⟩:=U 0 x rfl;rw [G]at I;cases I
  refine Zq<|Bc<|Zg<|An Y<|Zt<|AO rfl results44 Y (by exact ⟨[],by rw [h0];exact Bh 2 _,rfl⟩)
 refine AC<|C6<|Ze (EE G2 E0)<|AF fun O=>Zm Y<|Ze (IA (by_:=32) (sz:=2) G2 (V:Tryz.prog.info? 55=some Tryz.t55) V rfl V rfl Y (H6 2 55 O 0 [] V B0) Y (B) (by exact VL _) B0 Wo Wo (by exact Y9 _) A0 A0) ?_;rintro _ _ ⟨af,m,rfl⟩;replace m:=BZ m (Dd _) (N4 _);refine An Y<|AO V results44 Y (by exact ⟨_,m,V⟩)
set_option maxHeartbeats 1000000 in
theorem AC2(q:QM)(te base:Int)(hb:-1000000000000<=base/\base<=1000000000000){pg:BE}{cg:Nat}(hL:FV M (.slice pg L.length cg) L)(j5:L.length<=1000000)(hr:EJ q L=some r){lv:A2}(X:Dx M lv l)(ek:∀x∈l,x.cs.length<=1000):BS prog 57 #[.agg #[I4 q.kd,I4 q.tb,I4 q.cl,I4 q.lo,I4 q.hi,I4 q.bq,I4 q.ot,I4 te,I4 base,.slice pg L.length cg],lv] [M] (fun w H'=>(∃(z:Ox) (s3 s1 s2:List A8),Fh q base L l=some z.a/\z.ok (s3++(s1++(s2++M)))/\w= .tuple #[.agg z.BM6,.bool true]/\H'=[s3,s1,s2,M])\/(Fh q base L l=none/\w= .tuple #[.agg #[I4 0,I4 0,I4 0,I4 0,I4 0,I4 0,I4 0,.slice none 0 0,I4 0,.bool false,I4 0,I4 0,I4 0,.slice none 0 0,.slice none 0 0],.bool false]/\H'=[M])):=by
 have l8:=mL;obtain ⟨hq,l9,gQ⟩:=PR hr;obtain ⟨pl,cl,rfl,kv,l5⟩:=id X;obtain ⟨Z,hZ,U⟩:=id hL;have O:Z.length=L.length:=by rw [<-U,Bk]
 obtain ⟨pz,cz,ez,_,ic⟩:=id hZ;refine Se func57 ntmps57 [0,1] ?_;intro u R;refine A3<|Ze (Bx #[I4 q.kd,I4 q.tb,I4 q.cl,I4 q.lo,I4 q.hi,I4 q.bq,I4 q.ot,I4 te,I4 base,.slice pg L.length cg])<|AF fun be=>Ze (Al NO #[_,_,_,_,_,_,_,_,_,_,_,_,_,_,_])<|AF fun bo=>AH Y<|A3<|Zh 0 HF V rfl D4 Y<|Zo Wh (A9 (cs:=#[_,_,_,_,_,_,_]) Fm D4 Y B5 B1) ?_;refine Zh 9 HF V rfl Lw Y<|Zl PC Y ?_;refine Zc [_,_] Y call86 Y V (Xu hL q hr) ?_;rintro _ _ ⟨_,⟨o8,s0,rfl,h0,rfl⟩,rfl⟩;obtain ⟨p0,c0,rfl⟩:=h0.form;have d9:=Dl h0 A0
 refine Zm Y<|Zd Y V<|Zd Y V<|Ze (Al HS #[_,_,_])<|AF fun bs=>Xe (Xw C5 #[.slice p0 r.rows.length c0,I4 r.val,.bool r.fnd]) ?_;refine B2 Y<|Zn [1,2,4,6,7] ?_;refine Zx<|B8 Y<|Zv (Bo Y)<|Zm Y<|Ad (t:=19) Y V (fun W=>by cases W)<|fun W=>Zf Y Y<|Yg (AR G2 Y)<|Yg (DX (n:=64) Y Y)<|B9 Y Y<|A4<|Ak Y (fun af=>?_) (fun af=>?_);·
  refine A3<|Zv (BN (vs:=[]) (cs:=#[_,_,_,_,_,_,_,_,_,_,_,_,_,_,_]) Y (Aa (pl:=#[(0,7),(7,3),(10,1),(11,1),(12,1),(13,1),(14,1)]) NO HH (fun _=>by kernel_rfl) rfl))<|Xe (BJ KB Y Y K0 Wu (by exact Dz rfl) G4 B0 (by exact BB _)) ?_;refine An Y<|Zt<|CS V results57 Y Wh (Av Z3 KB Wn (Az V)) Y (by exact .inr ⟨kN A0,V,V⟩)
 refine B3<|Zb [1,2,4,6] ?_;refine CP (e0:=[]) (H0:=[]) (fun e H=>∃(I:Nat) (B:BE) (g:Nat) (s1:List A8) (G:BE) (m:Nat) (s2:List A8),(BU 9 145 (.slice B L.length g) Z.length (Z.flatMap Eu) s1/\BU 2 55 (.slice G l.length m) l.length (Da l) s2)/\e=[(8,I5 I)]/\H=[[(I,.cells #[I4 q.kd,I4 q.tb,I4 q.cl,I4 q.lo,I4 q.hi,I4 q.bq,I4 q.ot,.slice none 0 0,I4 0,.bool false,I4 0,I4 (base+(l.length:Int)),I4 base,.slice B L.length g,.slice G l.length m] 62 (0,0))],s1,s2]) Wp ?hx_2 ?hy_2
 case hx_2=>
  refine Ay (n:=17) (0::1::0::4::0::16::60::0::128::0::512::1536::0::7680::16383::0::65535::[]) 108544 AD AD V<|A1 0 V (AB (off:=0) HF V rfl D4 Y)<|G3 1 V Wh (A9 (cs:=#[_,_,_,_,_,_,_]) Fm D4 Y B5 B1) ?_;refine A1 2 V (AB (off:=8) HF V rfl A6 Y)<|Bm 3 V AE Y ?_;refine A1 4 V (AP Y)<|A1 5 V (AR G2 Y) ?_
  (refine F5 (D':=127) 6 (J6 Y Y (IntWalk.i64_in _ ?_)) ?_;(focus (omega)))
  refine A1 7 V (AB (off:=8) HF V rfl A6 Y)<|Bm 8 V AE Y ?_;refine A1 9 V (AB (off:=9) HF V rfl Lw Y)<|Bm 10 V PC Y ?_;refine A1 12 V (AP Y)<|Zz (l:=[11,15])<|BW [false,true,true,true] [(8,(_,_)),(3,(_,_)),(1,(_,_))] V rfl (Zw [_] Y call123 Y V (Lx hZ A0)) ?hk_3 Bv ?hl_3
  case' hk_3=>
   rintro _ _ ⟨_,⟨s1,J,rfl⟩,rfl⟩;refine ⟨Zk (Zk (Zk (Ab))),?_⟩;obtain ⟨B,g,e1⟩:=J.form;rw [O]at e1;subst e1;refine Zz (l:=[13,15])<|BW [true,true,true] [(8,(_,_)),(3,(_,_)),(1,(_,_))] V rfl (Zw [_] Y call44 Y V (KI X A0)) ?hk_4 Bv ?hl_4
   case' hk_4=>
    rintro _ _ ⟨_,⟨s2,h2,rfl⟩,rfl⟩;refine ⟨Zk (Zk (Zk (Ab))),?_⟩;obtain ⟨G,m,rfl⟩:=h2.form;refine A1 14 V (BN (vs:=[(0,.agg q.BM5),(3,I4 (base+(l.length:Int))),(4,I4 base),(5,.slice B L.length g),(6,.slice G l.length m)]) (cs:=#[I4 q.kd,I4 q.tb,I4 q.cl,I4 q.lo,I4 q.hi,I4 q.bq,I4 q.ot,.slice none 0 0,I4 0,.bool false,I4 0,I4 (base+(l.length:Int)),I4 base,.slice B L.length g,.slice G l.length m]) Y (Aa (pl:=#[(0,7),(7,3),(10,1),(11,1),(12,1),(13,1),(14,1)]) NO HH (fun _=>by kernel_rfl) AD))<|Yz 15 0 65535 [8,3,1] [true,true,true] [(8,(_,_)),(3,(_,_)),(1,(_,_))] V Y V rfl V rfl (Al NO #[_,_,_,_,_,_,_,_,_,_,_,_,_,_,_])<|AF fun I=>C3<|Yw 16 131071 V (Xw KB #[I4 q.kd,I4 q.tb,I4 q.cl,I4 q.lo,I4 q.hi,I4 q.bq,I4 q.ot,.slice none 0 0,I4 0,.bool false,I4 0,I4 (base+(l.length:Int)),I4 base,.slice B L.length g,.slice G l.length m])<|F0<|Aq<|Hh (by exact ⟨I,B,g,s1,G,m,s2,⟨J,h2⟩,V,V⟩)
   case' hl_4=>
    refine BW [true,true,true] [(8,(_,_)),(3,(_,_)),(1,(_,_))] V rfl (Al NO #[_,_,_,_,_,_,_,_,_,_,_,_,_,_,_]) ?hk_8 (fun _ _ h=>h.elim) ?hl_8
    case' hk_8=>
     rintro _ _ ⟨I,rfl,rfl⟩;refine ⟨Zk (Zk (Zk (Ab))),?_⟩
    case' hl_8=>
     exact Aj
  case' hl_3=>
   refine BW [true,true,true,true] [(10,(_,_)),(8,(_,_)),(3,(_,_)),(1,(_,_))] V rfl (Al NO #[_,_,_,_,_,_,_,_,_,_,_,_,_,_,_]) ?hk_12 (fun _ _ h=>h.elim) ?hl_12
   case' hk_12=>
    rintro _ _ ⟨I,rfl,rfl⟩;refine C3<|Zz (l:=[11])<|BW [false,true,true,true] [(8,(_,_)),(3,(_,_)),(1,(_,_))] V rfl (Zw [_] Y call123 Y V (Lx hZ A0)) ?hk_13 Bv ?hl_13
    case' hk_13=>
     rintro _ _ ⟨_,⟨s1,J,rfl⟩,rfl⟩;refine ⟨Zk (Zk (Zk (Ab))),?_⟩;obtain ⟨B,g,e1⟩:=J.form;rw [O]at e1;subst e1
    case' hl_13=>
     exact Aj
   case' hl_12=>
    exact Aj
  all_goals
   refine Zz (l:=[13])<|BW [true,true,true] [(8,(_,_)),(3,(_,_)),(1,(_,_))] V rfl (Zw [_] Y call44 Y V (KI X A0)) ?_ Bv Aj;rintro _ _ ⟨_,⟨s2,h2,rfl⟩,rfl⟩;refine ⟨Zk (Zk (Zk (Ab))),?_⟩;obtain ⟨G,m,rfl⟩:=h2.form;refine A1 14 V (BN (vs:=[(0,.agg q.BM5),(3,I4 (base+(l.length:Int))),(4,I4 base),(5,.slice B L.length g),(6,.slice G l.length m)]) (cs:=#[I4 q.kd,I4 q.tb,I4 q.cl,I4 q.lo,I4 q.hi,I4 q.bq,I4 q.ot,.slice none 0 0,I4 0,.bool false,I4 0,I4 (base+(l.length:Int)),I4 base,.slice B L.length g,.slice G l.length m]) Y (Aa (pl:=#[(0,7),(7,3),(10,1),(11,1),(12,1),(13,1),(14,1)]) NO HH (fun _=>by kernel_rfl) AD))<|Yw 16 131071 V (Xw KB #[I4 q.kd,I4 q.tb,I4 q.cl,I4 q.lo,I4 q.hi,I4 q.bq,I4 q.ot,.slice none 0 0,I4 0,.bool false,I4 0,I4 (base+(l.length:Int)),I4 base,.slice B L.length g,.slice G l.length m])<|F0<|Aq<|Hh (by exact ⟨I,B,g,s1,G,m,s2,⟨J,h2⟩,V,V⟩)
 rintro _ _ ⟨I,B,g,s1,G,m,s2,⟨J,h2⟩,rfl,rfl⟩;refine Zq<|A3<|Zh 0 HF V rfl D4 Y<|Zo Wh (A9 (cs:=#[_,_,_,_,_,_,_]) Fm D4 Y B5 B1) ?_;refine Zo Wh (A9 (cs:=#[_,_,_]) EV C5 Y B5 B1) ?_;refine Zh 8 HF V rfl A6 Y<|Zl AE Y ?_;refine Zm Y<|Zc [_,_,_,_] Y call87 Y V (RV q hq base A0 X A0 ek d9 A0 gQ) ?_;rintro _ _ ⟨_,⟨o9,s3,rfl,h3,rfl⟩,rfl⟩;obtain ⟨g3,c3,rfl⟩:=h3.form;refine Zm Y<|Zd Y rfl<|Zd Y rfl<|Zd Y rfl<|Zh 7 HH rfl rfl C5 Y<|Xe (BJ C5 Y Y K0 Wu (by exact (rfl:_=(#[I4 q.kd,I4 q.tb,I4 q.cl,I4 q.lo,I4 q.hi,I4 q.bq,I4 q.ot,.slice g3 (BI q r base l).1.rows.length c3,I4 (BI q r base l).1.val,.bool (BI q r base l).1.fnd,I4 0,I4 (base+(l.length:Int)),I4 base,.slice B L.length g,.slice G l.length m]:AN))) G4 B5 (by exact BB _)) ?_;refine Zh 10 HH V rfl A6 Y<|Xe (Zs A6 Y Y V (hc:=by exact (V:_=(#[I4 q.kd,I4 q.tb,I4 q.cl,I4 q.lo,I4 q.hi,I4 q.bq,I4 q.ot,.slice g3 (BI q r base l).1.rows.length c3,I4 (BI q r base l).1.val,.bool (BI q r base l).1.fnd,I4 (BI q r base l).2.1,I4 (base+(l.length:Int)),I4 base,.slice B L.length g,.slice G l.length m]:AN))) (hi:=by(simp;done))) ?_;refine B2 Y<|Zn [4,7,8] ?_;refine Zx<|AK Y<|Zv (Bo Y)<|A4<|AY Y (fun K=>?_) (fun K=>?_);·
  have gq:(BI q r base l).2.2=false:=by simpa using K
  refine A3<|Zv (BN (vs:=[]) (cs:=#[_,_,_,_,_,_,_,_,_,_,_,_,_,_,_]) Y (Aa (pl:=#[(0,7),(7,3),(10,1),(11,1),(12,1),(13,1),(14,1)]) NO HH (fun _=>by kernel_rfl) rfl))<|Xe (BJ KB Y Y K0 Wu (by exact Dz rfl) G4 B0 (by exact BB _)) ?_;refine An Y<|Zt<|CS rfl results57 Y Wh (Av Z3 KB Wn (Az rfl)) Y (by exact .inr ⟨by rw [Kt hr A0,aP gq];rfl,rfl,rfl⟩)
 have bn:(BI q r base l).2.2=true:=by simpa using K
 refine B3<|Zq ?_;have cu:∀z∈Z,z.ok M:=fun z hz=>by obtain ⟨i,hi⟩:=HU hz;exact (ic i z hi).1
 have ax:∀x∈l,CL M (.slice x.q x.cs.length x.cap) x.cs:=fun x hx=>by obtain ⟨i,hi⟩:=HU hx;obtain ⟨_,_,_,_,gm⟩:=X;exact (gm i x hi).1
 have gy:=MU bn;have j3:=Eo h3
 have cO:=Qc h3;refine Zg<|Zo Wh (A9 (cs:=#[_,_,_,_,_,_,_,_,_,_,_,_,_,_,_]) Z3 KB Y B5 B1) ?_;refine Xe (BJ KB Y Y K0 Wu (by exact Dz rfl) G4 B0 (by exact BB _)) ?_;refine An Y<|CS rfl results57 Y Wh (Av Z3 KB Wn (Az rfl)) Y (by exact .inl ⟨⟨⟨q,(BI q r base l).1,(BI q r base l).2.1,base+(l.length:Int),base,L,l⟩,g3,c3,B,g,G,m⟩,s3,s1,s2,by rw [Kt hr A0,gy];rfl,⟨(Dl h3 cO).mono (fun c hc=>G1 _ hc),⟨Z,(Xc J A0 cu).mono (fun c hc=>by rcases CD.1 hc with h9|h9;exact HK _ (G1 _ h9);exact HK _ (HK _ (HK _ h9))),U⟩,MV (KU h2 (by show l.length<=maxLen;omega) ax) (fun c hc=>HK _ (HK _ hc))⟩,rfl,rfl⟩)
theorem mZ(q:QM)(te base:Int)(J:-1000000000000<=base/\base<=1000000000000){G:BE}{B:Nat}(I:FV M (.slice G L.length B) L)(g:L.length<=1000000)(O:EJ q L=some r){lv:A2}(K:Dx M lv l)(m:∀x∈l,x.cs.length<=1000):BS prog 57 #[.agg #[I4 q.kd,I4 q.tb,I4 q.cl,I4 q.lo,I4 q.hi,I4 q.bq,I4 q.ot,I4 te,I4 base,.slice G L.length B],lv] [M] (fun w H'=>∃(z:Ox) (s:List A8) (b:Bool),((b=true/\Fh q base L l=some z.a/\z.ok (s++M))\/(b=false/\Fh q base L l=none))/\w= .tuple #[.agg z.BM6,.bool b]/\H'=[s,M]):=by
 refine Gj (AC2 q te base J I g O K m) V ?_;rintro w H' (⟨z,s3,s1,s2,h1,h2,rfl,rfl⟩|⟨h1,rfl,rfl⟩);· exact ⟨_,⟨z,s3++(s1++s2),true,.inl ⟨rfl,h1,by simpa only [DH]using h2⟩,rfl,rfl⟩,by simp⟩
 · exact ⟨_,⟨⟨⟨⟨0,0,0,0,0,0,0⟩,C8.none,0,0,0,[],[]⟩,none,0,none,0,none,0⟩,[],false,.inr ⟨rfl,h1⟩,rfl,rfl⟩,by simp⟩
def Xd:List UInt8:=List.replicate 32 0
def fl1(c:Chg):Int:=if c.had then 1 else 0
def vs1(c:Chg):List Int:=if c.had then [c.o.a,c.o.b,c.o.c]else []
def fl2(c:Chg):Int:=if c.has then fl1 c+2 else fl1 c
def vs2(c:Chg):List Int:=if c.has then vs1 c++[c.n.a,c.n.b,c.n.c]else vs1 c
def VY(c:Chg):List UInt8:=El [c.t,c.k,fl2 c]++El (vs2 c)
def G9(p:Int)(cs:List Chg):List UInt8:=El [p,(cs.length:Int)]++cs.flatMap VY
def iV(n:Int):A2:=I4 n
theorem bg(xs:List Int):Ji (xs.map iV).toArray 0 xs:=fun i n h=>by
 rw [Dd,fy,E6,h];rfl
theorem A80{cur:AN}{xs:List Int}(h:cur.toList.take xs.length=xs.map iV):Ji cur 0 xs:=fun i n hi=>by
 have g:=(C7.1 hi).1;rw [Dd,<-Hx];have m:(cur.toList.take xs.length)[i]?=(xs.map iV)[i]?:=by rw [h]
 rw [HR,Ax g,E6,hi]at m;exact m
variable{c:Chg}
theorem yp(h:c.had=true):fl1 c=1:=Ax h
theorem yq(h:c.had=false):fl1 c=0:=As (by rw [h];decide)
theorem tY(h:c.had=true):vs1 c=[c.o.a,c.o.b,c.o.c]:=Ax h
theorem tg(h:c.had=false):vs1 c=[]:=As (by rw [h];decide)
theorem yn(h:c.has=true):fl2 c=fl1 c+2:=Ax h
theorem yo(h:c.has=false):fl2 c=fl1 c:=As (by rw [h];decide)
theorem kw(h:c.has=true):vs2 c=vs1 c++[c.n.a,c.n.b,c.n.c]:=Ax h
theorem ky(h:c.has=false):vs2 c=vs1 c:=As (by rw [h];decide)
theorem xc(c:Chg):0<=fl1 c/\fl1 c<=1:=by unfold fl1;split<;>omega
theorem xz(c:Chg):0<=fl2 c/\fl2 c<=3:=by have:=xc c;unfold fl2;split<;>omega
theorem mV(h:c.ok):(∀n∈[c.t,c.k,fl2 c],-4611686018427387903<=n/\n<=4611686018427387903)/\(∀n∈vs2 c,-4611686018427387903<=n/\n<=4611686018427387903)/\0<(vs2 c).length/\(vs2 c).length<=6:=by
 obtain ⟨J,h2,_,_⟩:=h;have O:=xz c
 have K:c.had=true->(inV c.o.a/\inV c.o.b/\inV c.o.c)/\(0<=c.t/\c.t<=3)/\(1<=c.k/\c.k<=1000000):=fun g=>by
  have:c.before.ok:=Wg (fun hn=>h2 (.inl ⟨g,hn⟩));rw [N9 g]at this;exact this
 have hn:c.has=true->(inV c.n.a/\inV c.n.b/\inV c.n.c)/\(0<=c.t/\c.t<=3)/\(1<=c.k/\c.k<=1000000):=fun g=>by
  have:c.after.ok:=Wg (fun hn=>h2 (.inr ⟨g,hn⟩));rw [KC g]at this;exact this
 have U:(0<=c.t/\c.t<=3)/\(1<=c.k/\c.k<=1000000):=by
  cases g:c.had with
  |true=>exact (K g).2
  |false=>
   cases hs:c.has with
   |true=>exact (hn hs).2
   |false=>exact absurd (.inl ⟨by rw [g];decide,by rw [hs];decide⟩) J
 have m:∀n∈vs1 c,-4611686018427387903<=n/\n<=4611686018427387903:=by
  cases g:c.had with
  |true=>
   obtain ⟨⟨B,G,I⟩,_⟩:=K g;unfold inV at B G I;rw [tY g];intro n hn;simp only [DS,PA,PF]at hn;rcases hn with rfl|rfl|rfl<;>omega
  |false=>rw [tg g];intro n hn;cases hn
 refine ⟨fun n hn=>?_,?_,?_,?_⟩
 · simp only [DS,PA,PF]at hn
   rcases hn with rfl|rfl|rfl<;>omega
 · cases hs:c.has with
   |true=>
    obtain ⟨⟨B,G,I⟩,_⟩:=hn hs;unfold inV at B G I;rw [kw hs];intro n hn;rcases CD.1 hn with hn|hn
    · exact m n hn
    · simp only [DS,PA,PF]at hn
      rcases hn with rfl|rfl|rfl<;>omega
   |false=>rw [ky hs];exact m
 · cases hs:c.has with
   |true=>rw [kw hs,C0];simp
   |false=>
    rw [ky hs];cases g:c.had with
    |true=>rw [tY g];exact Nat.succ_pos _
    |false=>exact absurd (.inl ⟨by rw [g];decide,by rw [hs];decide⟩) J
 · have:(vs1 c).length<=3:=by unfold vs1;split<;>simp
   cases hs:c.has with
   |true=>rw [kw hs,C0];simp;omega
   |false=>rw [ky hs];omega
theorem AE7(c:Chg):(vs1 c).length<=3:=by unfold vs1;split<;>simp
theorem AB2(h:c.ok):(VY c).length<=81:=by
 obtain ⟨g,h2,m,B⟩:=mV h;have a:=ES _ g
 have b:=ES _ h2;unfold VY;rw [C0];have:[c.t,c.k,fl2 c].length=3:=rfl
 omega
theorem Uq:∀(cs:List Chg),(∀c∈cs,c.ok)->(cs.flatMap VY).length<=cs.length*81
 |[],_=>CM _
 |c::cs,h=>by
  have a:=Uq cs (fun x hx=>h x (by simp [hx]));have b:=AB2 (h c B7)
  rw [Hv,C0,F2];omega
variable{cs:List Chg}
theorem Uc{p:Int}(h:Db p cs):∀n∈[p,(cs.length:Int)],-4611686018427387903<=n/\n<=4611686018427387903:=by
 intro n hn;have g:=h.pos
 have h2:=h.len;simp only [DS,PA,PF]at hn;rcases hn with rfl|rfl<;>omega
theorem Db.mem{p:Int}(h:Db p cs):∀c∈cs,c.ok:=fun c hc=>by
 obtain ⟨i,hi⟩:=HU hc;exact h.all i c hi
theorem rH{p:Int}(h:Db p cs)(i:Nat):(El [p,(cs.length:Int)]++(cs.take i).flatMap VY).length<=666:=by
 have a:=ES _ (Uc h);have b:=Uq (cs.take i) (fun c hc=>h.mem c (RW hc))
 have d:(cs.take i).length<=8:=by rw [Cd];have:=h.len;omega
 rw [C0];have:[p,(cs.length:Int)].length=2:=rfl
 omega
theorem Oi{p:Int}(h:Db p cs):(G9 p cs).length<=18+cs.length*81:=by
 have a:=ES _ (Uc h);have b:=Uq cs h.mem
 unfold G9;rw [C0];have:[p,(cs.length:Int)].length=2:=rfl
 omega
variable{i:Nat}
theorem AB0(A:List UInt8){x:Chg}(hx:cs[i]?=some x):A++(cs.take (i+1)).flatMap VY=(A++(cs.take i).flatMap VY)++(El [x.t,x.k,fl2 x]++El (vs2 x)):=by
 rw [S1,hx];show A++(cs.take i++[x]).flatMap VY=_
 rw [On,DH];simp only [Hv,tE,E7];rfl
theorem nR(hu:∀g O U,(g,O)∈M->(g,U)∈M->O=U)(h:CL M v cs)(h0:0<cs.length):∃g off cap cur T z,v= .slice (some ⟨g,off,none⟩) cs.length cap/\(g,Obj.cells cur T z)∈M/\Lr 10 v cs.length (CV cs) [(g,.cells cur T z)]:=by
 obtain ⟨p,cap,rfl,hl,J⟩:=h;obtain ⟨c,hc⟩:∃c,cs[0]?=some c:=⟨_,BT h0⟩;obtain ⟨g,off,cur,T,z,rfl,K,_⟩:=J 0 c hc;refine ⟨g,off,cap,cur,T,z,V,K,FR cs,.inr ⟨g,off,cap,cur,T,z,V,V,?_⟩⟩;refine Uw _ 10 Y cur cs off (fun i a X=>?_);obtain ⟨g2,W,I,T2,z2,e,B,G,m⟩:=J i a X;injection e with e
 injection e with e1 e2 e3
 subst e1 e2;have:=hu g _ _ K B
 injection this with h1 h2 h3
 subst h1;exact ⟨G,by rw [m]⟩
theorem aQ:Au prog 29 #[.string (str [0]),I4 32] [] (.string (str Xd)):=fun u R w m=>(Tryz.strings_Repeat (str [0]) 32 w B0 B0).mono (by
 rintro e B ⟨rfl,g⟩;exact .inl ⟨_,[],V,⟨V,V⟩,m.below g⟩)
theorem AB7(g off cap n:Nat)(cur:AN)(T:AM)(z:Nat×Nat)(ys:List A2)(M1 G:List A8)(B:Lr 10 (.slice (some ⟨g,off,none⟩) n cap) n ys [(g,.cells cur T z)])(h0:0<n)(hn:n<=1000000):
 BS prog 106 #[.slice (some ⟨g,off,none⟩) n cap] [M1,[(g,.cells cur T z)],G] (fun r H'=>∃J,BU 10 73 r n ys J/\H'=[J,M1,[(g,.cells cur T z)],G]):=by
 have O:=mL;refine Se func106 ntmps106 [0] ?_;intro u R;refine A3<|AH Y<|B8 Y<|Zv (De GO Y Y)<|A4<|AY Y (fun I=>by cases I)<|fun I=>AC<|C6<|Ze (EE GO Cl)<|AF fun K=>Zm Y<|Ze (Li (by_:=80) (sz:=10) GO (V:Tryz.prog.info? 73=some Tryz.t73) V rfl V rfl Y (Cu 10 K 0 0 73 (0,0) [] V) Y (B) Wo Wo A0 A0 A0) ?_;rintro _ _ ⟨X,m,rfl⟩;obtain ⟨W,U,rfl⟩:=m.form;refine An Y<|AO V results106 Y (by exact ⟨_,BZ m A0 B7,V⟩)
theorem rT{P:Program}{f:FuncId}{args:AN}{H:Hp}{Q m:A2->Hp->Prop}(h:BS P f args H Q)(O:∀v H1,Q v H1->∃g,m v g/\H1.flatten=g.flatten):BS P f args H m:=fun u R w U=>
 Calls.mono (h u R w U) fun e W K=>by
  rcases K with⟨v,H1,B,h2,G⟩|⟨_,_,_,h,_⟩
  · obtain ⟨g,I,J⟩:=O v H1 h2
    exact .inl ⟨v,g,B,I,G.sub ⟨[],by simp [J]⟩⟩
  · exact h.elim
theorem ry(I:CL M v cs)(h0:0<cs.length)(hn:cs.length<=1000000):BS prog 106 #[v] [M] (fun r H'=>∃B,BU 10 73 r cs.length (CV cs) B/\H'=[B,M]):=rR fun K=>by
 obtain ⟨g,off,cap,cur,T,z,rfl,J,m⟩:=nR K I h0;obtain ⟨M1,G,rfl⟩:=cW J;refine rU (H:=[M1,[(g,.cells cur T z)],G]) B7 (rT (AB7 g off cap cs.length cur T z _ M1 G m h0 hn) ?_);rintro r _ ⟨B,h,rfl⟩;exact ⟨_,⟨B,h,V⟩,by simp⟩
theorem NJ{g:Nat}{cur:AN}{z:Nat×Nat}(h:BU sz e (I6 g n cap) n xs [(g,.cells cur e z)]){j:Nat}{u:A2}(G:xs[j]?=some u):cur[j]?=some u:=by
 obtain ⟨U,⟨m,_⟩|⟨K,I,J,W,m,h2,_,_,_,B,_⟩⟩:=h;· cases m
 · injection m with m _ h3
   injection h2 with h2 _
   injection h2 with h4 h5
   injection h5 with h5 _ _
   subst h5;have O:=(C7.1 G).1
   rw [<-B,HR,Ax A0]at G;simpa using G
theorem lL(h:BU sz e (.slice p n cap) n xs s)(h0:0<n):∃g cur z,p=some ⟨g,0,none⟩/\s=[(g,.cells cur e z)]/\Iq z cur.size/\cur.size=cap*sz/\n<=cap/\cap<=maxLen:=by
 obtain ⟨O,⟨m,h2,_⟩|⟨g,B,cur,z,m,rfl,h2,G,I,K,J⟩⟩:=h;· omega
 · injection m with m _ h7
   subst h7;exact ⟨g,cur,z,m,V,J,I,h2,G⟩
theorem kJ(h:CL M (.slice p n cap) cs):FX M p (CV cs):=by
 obtain ⟨B,g,e,_,m⟩:=h;injection e with e1 e2 e3
 subst e1;exact Oc _ 10 (fun _=>rfl) B0 fun i z hz=>m i z hz
theorem fe{ls:List Bs}(h:Di M (.slice p n cap) ls):FX M p (ls.map EZ):=by
 obtain ⟨G,m,e,_,B⟩:=h;injection e with e1 e2 e3
 subst e1;intro j u g;rw [E6]at g;cases hs:ls[j]?with
 |none=>rw [hs]at g;cases g
 |some s=>rw [hs]at g;injection g with g;subst g;exact B j s hs
theorem A09(ls:List Bs):∀u∈ls.map EZ,u.oneCell'=true:=by
 intro u g;obtain ⟨z,_,rfl⟩:=CI.1 g;rfl
theorem iK{ps:List (List Bs)}(h:J3 M (.slice p n cap) ps):∃m,Lg M m ps/\FX M p m/\∀u∈m,u.oneCell'=true:=by
 obtain ⟨p',af,e,_,hg⟩:=h;injection e with e1 e2 e3
 subst e1;have key:∀k,k<=ps.length->∃m:List A2,m.length=k/\∀(i:Nat) (l:List Bs),i<k->ps[i]?=some l->∃q c,m[i]?=some (.slice q l.length c)/\Di M (.slice q l.length c) l/\∃g off cur T zz,p=some ⟨g,off,none⟩/\(g,Obj.cells cur T zz)∈M/\cur[off+i]?=some (.slice q l.length c):=by
  intro k;induction k with
  |zero=>intro _;exact ⟨[],rfl,fun i l h=>absurd h (iS i)⟩
  |succ k ih=>
   intro hk;obtain ⟨m,O,h2⟩:=ih A0;obtain ⟨l,G⟩:∃l,ps[k]?=some l:=⟨_,BT A0⟩;obtain ⟨q,c,I,W⟩:=hg k l G;refine ⟨m++[.slice q l.length c],by rw [C0,O];rfl,fun i l' hi B=>?_⟩;rcases Fi i k with U|U
   · obtain ⟨q',c',X,h7⟩:=h2 i l' U B
     exact ⟨q',c',by rw [dj A0];exact X,h7⟩
   · obtain rfl:i=k:=by omega
     rw [G]at B;injection B with B;subst B
     exact ⟨q,c,by rw [TO A0,O];simp,I,W⟩
 obtain ⟨m,O,h2⟩:=key ps.length (D0 _);refine ⟨m,⟨O,fun i v l hv G=>?_⟩,fun j u J=>?_,fun u J=>?_⟩
 · obtain ⟨q,c,I,W,_⟩:=h2 i l (C7.1 G).1 G
   rw [I]at hv;injection hv with hv;subst hv;exact W
 · have K:=(C7.1 J).1
   obtain ⟨l,G⟩:∃l,ps[j]?=some l:=⟨_,BT A0⟩;obtain ⟨q,c,I,_,g,off,cur,T,zz,U,X,h7⟩:=h2 j l A0 G;rw [I]at J;injection J with J;subst J
   exact ⟨g,off,cur,T,zz,U,X,h7⟩
 · obtain ⟨j,K⟩:=HU J
   have ax:=(C7.1 K).1;obtain ⟨l,G⟩:∃l,ps[j]?=some l:=⟨_,BT A0⟩;obtain ⟨q,c,I,_⟩:=h2 j l A0 G;rw [I]at K;injection K with K;subst K;rfl
def RP.fits(x:RP):Prop:=x.rows.length<=1000000/\x.paths.length<=1000000/\x.roots.length<=1000000/\∀l∈x.paths,l.length<=1000000
theorem Xf(Z:List RPZ):(Z.flatMap Eu).length=Z.length*9:=by
 induction Z with
 |nil=>rfl
 |cons a l ih=>rw [Hv,C0,ih];show 9+_=_;rw [F2];omega
theorem fE{A B:List RPZ}(g:A.length=i)(k:Nat)(m:k<9):((A++z::B).flatMap Eu)[i*9+k]?=(Eu z)[k]?:=by
 rw [On,Hv,TO (by rw [Xf];omega),Xf,g,show i*9+k -i*9=k by omega,dj m]
theorem xD{A B:List RPZ}(G:A.length=i)(a b c:BE)(g m c':Nat):
 ((((A++z::B).flatMap Eu).set (i*9+6) (.slice a z.x.rows.length g)).set (i*9+8) (.slice b z.x.roots.length m)).set (i*9+7) (.slice c z.x.paths.length c')=(A++[(⟨z.x,a,g,c,c',b,m⟩:RPZ)]++B).flatMap Eu:=by
 have e:∀(l:List A2) (k:Nat) (v:A2),(A.flatMap Eu++l).set (i*9+k) v=A.flatMap Eu++l.set k v:=fun l k v=>by
  rw [nB _ _ (by rw [Xf];omega),Xf,G,show i*9+k -i*9=k by omega]
 rw [DH,On,On,Hv,e,e,e];rfl
theorem Ve(hv:CL M v cs)(hb:cs.length<=1000000):BS prog 106 #[v] [M] (fun r H'=>∃K,BU 10 73 r cs.length (CV cs) K/\H'=[K,M]):=by
 have W:=mL;have B:=hv
 obtain ⟨p,cap,rfl,hl,U⟩:=id hv;replace B:=kJ B;refine Se func106 ntmps106 [0] ?_;intro u R;refine A3<|AH Y<|B8 Y<|Zv (De GO Y Y)<|A4<|AY Y (fun J=>?_) (fun J=>?_);·
  have G:p=none:=by cases p with
   |none=>rfl
   |some x=>cases J
  have h0:cs=[]:=by
   cases cs with
   |nil=>rfl
   |cons x l=>obtain ⟨g,off,cur,T,zz,I,_⟩:=U 0 x rfl;rw [G]at I;cases I
  refine Zq<|Bc<|Zg<|An Y<|Zt<|AO rfl results106 Y (by exact ⟨[],by rw [h0];exact Bh 10 _,rfl⟩)
 refine AC<|C6<|Ze (EE GO Cl)<|AF fun O=>Zm Y<|Ze (IA (by_:=80) (sz:=10) GO (V:Tryz.prog.info? 73=some Tryz.t73) V rfl V rfl Y (H6 10 73 O 0 [] V B0) Y (B) (by exact FR _) B0 Wo Wo (by exact Q8 _) A0 A0) ?_;rintro _ _ ⟨X,m,rfl⟩;replace m:=BZ m (Dd _) (N4 _);refine An Y<|AO V results106 Y (by exact ⟨_,m,V⟩)
theorem Nu{ls:List Bs}(hv:Di M v ls)(hb:ls.length<=1000000):BS prog 159 #[v] [M] (fun r H'=>∃K,BU 1 9 r ls.length (ls.map EZ) K/\H'=[K,M]):=by
 have W:=mL;have B:=hv
 obtain ⟨p,cap,rfl,hl,U⟩:=id hv;replace B:=fe B;refine Se func159 ntmps159 [0] ?_;intro u R;refine A3<|AH Y<|B8 Y<|Zv (De DO Y Y)<|A4<|AY Y (fun J=>?_) (fun J=>?_);·
  have G:p=none:=by cases p with
   |none=>rfl
   |some x=>cases J
  have h0:ls=[]:=by
   cases ls with
   |nil=>rfl
   |cons x l=>obtain ⟨g,off,cur,T,zz,I,_⟩:=U 0 x rfl;rw [G]at I;cases I
  refine Zq<|Bc<|Zg<|An Y<|Zt<|AO rfl results159 Y (by exact ⟨[],by rw [h0];exact Bh 1 _,rfl⟩)
 refine AC<|C6<|Ze (EE DO FG)<|AF fun O=>Zm Y<|Ze (IA (by_:=16) (sz:=1) DO (V:Tryz.prog.info? 9=some Tryz.t9) V rfl V rfl Y (H6 1 9 O 0 [] V B0) Y (B) (by(rw [Bk,O2])) B0 Wo Wo (by exact A09 _) A0 A0) ?_;rintro _ _ ⟨X,m,rfl⟩;replace m:=BZ m (Dd _) (N4 _);refine An Y<|AO V results159 Y (by exact ⟨_,m,V⟩)
theorem U1{ps:List (List Bs)}(hv:J3 M v ps)(hb:ps.length<=1000000):BS prog 160 #[v] [M] (fun r H'=>∃X B,Lg M B ps/\BU 1 50 r ps.length B X/\H'=[X,M]):=by
 have ax:=mL;have G:=hv
 obtain ⟨p,cap,rfl,⟨hl,af⟩,hg⟩:=id hv;obtain ⟨B,J,G,I⟩:=iK G;have O:=J.1
 refine Se func160 ntmps160 [0] ?_;intro u R;refine A3<|AH Y<|B8 Y<|Zv (De My Y Y)<|A4<|AY Y (fun W=>?_) (fun W=>?_);·
  have K:p=none:=by cases p with
   |none=>rfl
   |some x=>cases W
  have h0:ps=[]:=by
   cases ps with
   |nil=>rfl
   |cons x l=>obtain ⟨_,_,_,g,off,cur,T,zz,U,_⟩:=hg 0 x rfl;rw [K]at U;cases U
  refine Zq<|Bc<|Zg<|An Y<|Zt<|AO rfl results160 Y (by exact ⟨[],[],by rw [h0];exact Wi _,by rw [h0];exact Bh 1 _,rfl⟩)
 refine AC<|C6<|Ze (EE My Hc)<|AF fun g1=>Zm Y<|Ze (IA (by_:=24) (sz:=1) My (V:Tryz.prog.info? 50=some Tryz.t50) V rfl V rfl Y (H6 1 50 g1 0 [] V B0) Y (G) (by(rw [O2];exact O)) B0 Wo Wo I A0 A0) ?_;rintro _ _ ⟨bn,m,rfl⟩;replace m:=BZ m (Dd _) (N4 _);refine An Y<|AO V results160 Y (by exact ⟨_,B,J,m,V⟩)
end Go.Proofs.YtlkdhannldcfbabGreatDoor
