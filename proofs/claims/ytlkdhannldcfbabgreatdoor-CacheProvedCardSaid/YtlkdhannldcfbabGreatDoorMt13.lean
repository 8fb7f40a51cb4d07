/- ownRecord, ownEntry. -/
import Derived.Test.YtlkdhannldcfbabGreatDoorCa1
set_option linter.unusedVariables false
set_option linter.unusedSimpArgs false
namespace Go.Proofs.YtlkdhannldcfbabGreatDoor
open Go.Proofs.Tryz
open Go Go.RowKit Gw
set_option maxRecDepth 100000
attribute [local irreducible] Gw.At Gw.Nx Gw.Ops
variable{M:List A8}
theorem iL{J s:List A8}{B:List A2}{ps:List (List Bs)}{k:Nat}{U:A2}{O:List Bs}(h:∀(j:Nat) (v:A2) (l:List Bs),B[j]?=some v->ps[j]?=some l->if j<k then Di J v l else Di M v l)(Z:B.length=ps.length)(hk:k<ps.length)(X:ps[k]?=some O)(W:Di s U O):
 ∀(j:Nat) (v:A2) (l:List Bs),(B.set k U)[j]?=some v->ps[j]?=some l->if j<k+1 then Di (s++J) v l else Di M v l:=by
 intro j v l hv m;rw [W4]at hv;by_cases K:k=j
 · subst K
   rw [Ax rfl,Ax A0]at hv;injection hv with hv
   rw [X]at m;injection m with m
   subst hv m;rw [Ax A0];exact W.mono fun c hc=>G1 _ hc
 · rw [As K]at hv
   have I:=h j v l hv m;by_cases G:j<k
   · rw [Ax G]at I
     rw [Ax A0];exact I.mono fun c hc=>HK _ hc
   · rw [As G]at I
     rw [As A0];exact I
theorem rO{α:Type}{l:List α}{i:Nat}{x:α}(h:l[i]?=some x):l.drop i=x::l.drop (i+1):=by
 obtain ⟨m,h2⟩:=C7.1 h;rw [TX m,h2]
variable{v:A2}
theorem Rc(p:Int){cs:List Chg}(hv:CL M v cs)(J:cs.length<=1000000):BS prog 43 #[.agg #[I4 p,v]] [M] (fun r H'=>∃q cap s,r= .agg #[I4 p,.slice q cs.length cap]/\CL s (.slice q cs.length cap) cs/\H'=[s,M]):=by
 have O:=mL;obtain ⟨U,m,rfl,K,_⟩:=id hv;refine Se func43 ntmps43 [0] ?_;intro u R;refine A3<|Ze (Bx #[I4 p,.slice U cs.length m])<|AF fun X=>Ze (Al N2 #[_,_])<|AF fun W=>A4<|A3<|Zh 1 GS V rfl Kf Y<|Zl MA Y ?_;refine Zc [_] Y call106 Y V (Ve hv J) ?_;rintro _ _ ⟨_,⟨s1,I,rfl⟩,rfl⟩;obtain ⟨G,B,rfl⟩:=I.form;refine Zh 1 GS V rfl Kf Y<|Xe (Zs Kf Y Y V (hi:=by(simp;done))) ?_;refine A4<|A3<|Zo Wh (A9 (cs:=#[I4 p,.slice G cs.length B]) HN E0 Y B5 (by exact Az V)) ?_;refine Xe (BJ E0 Y Y K0 Wu (by exact Dz rfl) G4 B0 (by exact BB _)) ?_;refine A4<|AL<|D7 V results43 Y Wh (Av HN E0 Wn (Az V)) (by exact ⟨G,B,s1,V,RA I A0,V⟩)
set_option maxHeartbeats 1000000 in
theorem Re(q:QM)(te base:Int){pg:BE}{cg:Nat}{L:List RP}(hL:FV M (.slice pg L.length cg) L)(vw:L.length<=1000000)(j5:∀x∈L,x.fits):BS prog 88 #[.agg #[I4 q.kd,I4 q.tb,I4 q.cl,I4 q.lo,I4 q.hi,I4 q.bq,I4 q.ot,I4 te,I4 base,.slice pg L.length cg]] [M] (fun r H'=>∃pz cz s,r= .agg #[I4 q.kd,I4 q.tb,I4 q.cl,I4 q.lo,I4 q.hi,I4 q.bq,I4 q.ot,I4 te,I4 base,.slice pz L.length cz]/\FV s (.slice pz L.length cz) L/\H'=[s,M]):=by
 have y9:=mL;obtain ⟨Z,hZ,cO⟩:=id hL;have j3:Z.length=L.length:=by rw [<-cO,Bk]
 obtain ⟨p9,sO,e9,_,qz⟩:=id hZ;injection e9 with e91 e92 e93
 subst e91 e93;have p8:∀(i:Nat) (z:RPZ),Z[i]?=some z->z.ok M/\z.x.fits:=fun i z hz=>⟨(qz i z hz).1,j5 _ (by rw [<-cO];exact Fk (Ek hz))⟩
 refine Se func88 ntmps88 [0] ?_;intro u R;refine A3<|Ze (Bx #[I4 q.kd,I4 q.tb,I4 q.cl,I4 q.lo,I4 q.hi,I4 q.bq,I4 q.ot,I4 te,I4 base,.slice pg L.length cg])<|AF fun be=>Ze (FM fN (cs:=#[I4 0,I4 0,I4 0,I4 0,I4 0,I4 0,I4 0,I4 0,I4 0,.slice none 0 0]) AD)<|AF fun bo=>A4<|A3<|Zh 9 HF V rfl Lw Y<|Zl PC Y ?_;refine Zc [_] Y call123 Y V (Lx hZ A0) ?_;rintro _ _ ⟨_,⟨s1,h1,rfl⟩,rfl⟩;obtain ⟨pz,cz,rfl⟩:=h1.form;refine Zh 9 HF V rfl Lw Y<|Xe (Zs Lw Y Y V (hi:=by(simp;done))) ?_;refine A4<|Zq<|Zq<|Bc<|Zg<|Zh 9 HF V rfl Lw Y<|Zl PC Y ?_;refine Zv (AR N5 Y)<|Zm Y<|A4<|AQ<|Zb [13,1,2,12] ?_;refine Aw (e0:=[(13,_)]) (fun m e H=>∃(i:Nat) (W:List RPZ) (sz MM:List A8),m=Z.length -i/\((i<=Z.length/\W.length=i)/\BU 9 145 (.slice pz Z.length cz) Z.length ((W++Z.drop i).flatMap Eu) sz/\(∀z∈W,z.ok MM)/\W.map RPZ.x=(Z.take i).map RPZ.x)/\e=[(13,I4 (i:Int))]/\H=[sz,MM]) (by exact ⟨0,[],s1,[],V,⟨⟨CM _,V⟩,h1,fun z hz=>absurd hz B7,V⟩,V,V⟩) Wp ?_;rintro _ _ _ ⟨i,W,sz,MM,rfl,⟨⟨hi,K⟩,G,af,gm⟩,rfl,rfl⟩;refine Zq<|Bc<|Zg<|Zv (Ap Y Y)<|A4<|Zq<|Ak Y (fun qx=>?_) (fun qx=>?_);·
  obtain ⟨z,hz⟩:∃z,Z[i]?=some z:=⟨_,BT A0⟩;obtain ⟨⟨sj,r9,sw⟩,wz,pq,q9,qa⟩:=p8 i z hz;rw [rO hz]at G;obtain ⟨g,cur,zz,rfl,rfl,d9,wo,y5,vz⟩:=lL G A0;have x9:i*9+9<=cur.size:=by omega
  have qb:=NJ G (fE (B:=Z.drop (i+1)) K 6 B0);have qh:=NJ G (fE (B:=Z.drop (i+1)) K 7 B0)
  have qj:=NJ G (fE (B:=Z.drop (i+1)) K 8 B0);refine B3<|Zq<|AQ<|Zq<|Bc<|Zg<|Zm Y<|AH Y<|A3<|Zh 9 HF V rfl Lw Y<|Zl PC Y ?_;refine Zm Y<|BX (AZ N5 Hj Y Y A0)<|CT Y<|Ay (n:=27) (0::0::0::0::8::24::56::120::0::256::768::1792::4088::0::8192::24576::57344::131064::262137::524281::1048569::2097147::4194299::8388603::16777215::33554431::67108863::[]) 76681344 AD AD rfl<|A1 0 rfl (AP Y)<|A1 1 rfl (AP Y)<|A1 2 rfl (AP Y)<|A1 3 rfl (AP Y)<|A1 4 rfl (Ao Y rfl)<|A1 5 rfl (Ar (off:=6) DA rfl rfl E3 Y)<|Bm 6 rfl GP Y (hv:=by exact (by rw [Dd];exact qb)) ?_;refine A1 8 rfl (AP Y)<|A1 9 rfl (Ao Y rfl)<|A1 10 rfl (Ar (off:=8) DA rfl rfl Hc Y)<|Bm 11 rfl ID Y (hv:=by exact (by rw [Dd];exact qj)) ?_;refine A1 13 rfl (AP Y)<|A1 14 rfl (Ao Y rfl)<|A1 15 rfl (Ar (off:=7) DA rfl rfl T0 Y)<|Bm 16 rfl cy Y (hv:=by exact (by rw [Dd];exact qh)) ?_;refine Zz (l:=[7])<|BW [true,true,false] [(16,(_,_)),(11,(_,_))] V rfl (Zw [_] Y call107 Y V (Gu sj A0)) ?_ Bv Aj;rintro _ _ ⟨_,⟨sr,l9,rfl⟩,rfl⟩;refine ⟨Zk (Zk (Ab)),?_⟩;obtain ⟨qr,cr,rfl⟩:=l9.form;refine Zz (l:=[12])<|BW [true,false] [(16,(_,_))] V rfl (Zw [_] Y call159 Y V (Nu sw q9)) ?_ Bv Aj;rintro _ _ ⟨_,⟨st,o8,rfl⟩,rfl⟩;refine ⟨Zk (Ab),?_⟩;obtain ⟨qt,ct,rfl⟩:=o8.form;refine Zz (l:=[17])<|BW [false] [] V rfl (Zw [_] Y call160 Y V (U1 r9 pq)) ?_ Bv Aj;rintro _ _ ⟨_,⟨sM,sJ,ax,bn,rfl⟩,rfl⟩;refine ⟨Ab,?_⟩;obtain ⟨qp,cp,rfl⟩:=bn.form;refine A1 18 V (Ao Y V)<|A1 19 V (Ar (off:=6) DA V rfl E3 Y)<|Zz (l:=[20])<|BW [] [] V rfl (Zs E3 Y Y V (hi:=by omega) (hz:=by exact d9)) ?_ (fun _ _ h=>h.elim) Aj;rintro _ _ ⟨rfl,rfl⟩;refine C3<|A1 21 V (Ao Y V)<|A1 22 V (Ar (off:=8) DA V rfl Hc Y)<|Zz (l:=[23])<|BW [] [] V rfl (Zs Hc Y Y V (hi:=by(simp;omega)) (hz:=by(simp only [V2];exact d9))) ?_ (fun _ _ h=>h.elim) Aj;rintro _ _ ⟨rfl,rfl⟩
  refine C3<|A1 24 V (Ao Y V)<|A1 25 V (Ar (off:=7) DA V rfl T0 Y)<|Zz (l:=[26])<|BW [] [] V rfl (Zs T0 Y Y V (hi:=by(simp;omega)) (hz:=by(simp only [V2];exact d9))) ?_ (fun _ _ h=>h.elim) Aj;rintro _ _ ⟨rfl,rfl⟩;refine C3<|Aq<|Zn [1,2,4,12,13] ?_;refine Zx<|Zq ?_;have h7:(((cur.setIfInBounds (0+i*9+6) (.slice qr z.x.rows.length cr)).setIfInBounds (0+i*9+8) (.slice qt z.x.roots.length ct)).setIfInBounds (0+i*9+7) (.slice qp z.x.paths.length cp))[0+i*9+7]?=some (.slice qp z.x.paths.length cp):=by
   rw [kh,Ax rfl,Ax (by simp only [V2];omega)]
  obtain ⟨gQ,I⟩:∃c,c=(((cur.setIfInBounds (0+i*9+6) (.slice qr z.x.rows.length cr)).setIfInBounds (0+i*9+8) (.slice qt z.x.roots.length ct)).setIfInBounds (0+i*9+7) (.slice qp z.x.paths.length cp)):=⟨_,rfl⟩;rw [<-I]at h7⊢;refine Zg<|Zm Y<|Zp Y V<|Zv (Ar (off:=7) DA V rfl T0 Y)<|Zl cy Y (hv:=by exact h7) ?_;refine Zv (AR My Y)<|Zm Y<|A4<|AQ<|Bc<|Zb [49,1,2,4,12,13,48] ?_;refine Aw (e0:=[(49,_)]) (fun m e H=>∃(k:Nat) (O:List A2) (sp U:List A8),m=z.x.paths.length -k/\((k<=z.x.paths.length/\O.length=z.x.paths.length)/\BU 1 50 (.slice qp z.x.paths.length cp) z.x.paths.length O sp/\(∀(j:Nat) (v:A2) (l:List Bs),O[j]?=some v->z.x.paths[j]?=some l->if j<k then Di U v l else Di M v l))/\e=[(49,I4 (k:Int))]/\H=[sp,U]) (by exact ⟨0,sJ,sM,[],rfl,⟨⟨CM _,ax.1⟩,bn,fun j v l hv hl=>by rw [As (iS j)];exact ax.2 j v l hv hl⟩,rfl,rfl⟩) Wp ?_;rintro _ _ _ ⟨k,O,sp,U,rfl,⟨⟨hk,gq⟩,X,gy⟩,rfl,rfl⟩;refine A3<|Zv (Ap Y Y)<|A4<|Zq<|Ak Y (fun ek=>?_) (fun ek=>?_);·
   obtain ⟨l,hl⟩:∃l,z.x.paths[k]?=some l:=⟨_,BT ek⟩;have qw:=qa l (Ek hl)
   obtain ⟨v0,o9⟩:∃v,O[k]?=some v:=⟨_,BT A0⟩;obtain ⟨gp,ic,zp,rfl,rfl,kv,ve,vo,sQ⟩:=lL X A0;have qo:=NJ X o9
   have cu:=gy k v0 l o9 hl;rw [As (Nat.lt_irrefl k)]at cu;refine B3<|Zq<|AQ<|AK Y<|AH Y<|Ay (n:=15) (0::1::3::7::0::0::32::96::224::0::992::2016::4064::8191::16383::[]) 20480 AD AD V<|A1 0 V (AP Y)<|A1 1 V (Ao Y V)<|A1 2 V (Ar (off:=7) DA V rfl T0 Y)<|Bm 3 V cy Y (hv:=by exact h7) ?_;refine A1 4 V (AP Y)<|A1 5 V (AP Y)<|A1 6 V (Ao Y V)<|A1 7 V (Ar (off:=7) DA V rfl T0 Y)<|Bm 8 V cy Y (hv:=by exact h7) ?_;refine A1 9 rfl (AP Y)<|A1 10 rfl (Bd My Hc Y Y (by first|omega|(simp;omega)))<|Bm 11 rfl ID Y (hv:=by exact (by exact qo)) ?_;refine Zz (l:=[12])<|BW [false,false,true] [(3,(_,_))] V rfl (Zw [_] Y call159 Y V (Nu cu qw)) ?_ Bv Aj;rintro _ _ ⟨_,⟨sl,l8,rfl⟩,rfl⟩;refine ⟨Zk (Ab),?_⟩;obtain ⟨ql,cl,rfl⟩:=l8.form;refine A1 13 rfl (Bd My Hc Y Y (by first|omega|(simp;omega)))<|Yw 14 32767 rfl (Zs Hc Y Y rfl (hi:=by omega) (hz:=by exact kv))<|F0<|Aq<|Zn [1,2,4,12,13,48,49] ?_;refine AA<|Zx<|Cc (s1:=sl) (s2:=U) Wo Wo ?_;refine Dg Y Y Y<|DG (e:=[(49,_)]) (h:=by exact ⟨k+1,O.set k (.slice ql l.length cl),[(gp,.cells (ic.setIfInBounds k (.slice ql l.length cl)) 50 zp)],sl++U,rfl,⟨⟨by omega,by rw [ee];exact gq⟩,Pd X k _,iL gy gq ek hl (Gr l8 A0)⟩,rfl,rfl⟩)
  obtain rfl:k=z.x.paths.length:=by omega
  refine BA<|Zt<|Zt<|AX<|AA<|Zx<|Cc (s1:=U) (s2:=st) Wo Wo ?_;refine Cc (s1:=sp) (s2:=(U++st)) Wo Wo ?_;refine Cc (s1:=sr) (s2:=(sp++(U++st))) Wo Wo ?_;refine Cc (s1:=(sr++(sp++(U++st)))) (s2:=MM) Wo Wo ?_;have l5:RPZ.ok (sr++(sp++(U++st))) ⟨z.x,qr,cr,qp,cp,qt,ct⟩:=⟨(Dl l9 A0).mono (fun c hc=>G1 _ hc),(Wj X ⟨gq,fun j v l hv hl=>by
   have h9:=gy j v l hv hl;rwa [Ax (C7.1 hl).1]at h9⟩ A0).mono (fun c hc=>by rcases CD.1 hc with h9|h9<;>simp [h9]),(Gr o8 A0).mono (fun c hc=>by simp [hc])⟩
  have J:=Pd (Pd (Pd G (i*9+6) (.slice qr z.x.rows.length cr)) (i*9+8) (.slice qt z.x.roots.length ct)) (i*9+7) (.slice qp z.x.paths.length cp);rw [xD K]at J;simp only [Dd]at I;rw [<-I]at J;refine Dg Y Y Y<|Zn [13,1,2,12] ?_;refine Ac (e':=[(13,_)]) (by
   exact ⟨i+1,W++[⟨z.x,qr,cr,qp,cp,qt,ct⟩],[(g,.cells gQ 145 zz)],sr++(sp++(U++st))++MM,rfl,⟨⟨by omega,by rw [C0,K];rfl⟩,J,fun y hy=>by
    rcases CD.1 hy with hy|hy
    · exact (af y hy).mono (fun c hc=>HK _ hc)
    · rw [CH.1 hy];exact l5.mono (fun c hc=>G1 _ hc),by rw [CN,gm,Bl hz,CN];rfl⟩,rfl,rfl⟩)
 obtain rfl:i=Z.length:=by omega
 refine BA<|Zt<|Zt<|AX<|Zx<|Zq ?_;rw [show W++Z.drop Z.length=W by rw [lO,E7]]at G;rw [HE]at gm;refine Cc (s1:=sz) (s2:=MM) Wo Wo ?_;refine Zg<|Zo Wh (A9 (cs:=#[I4 q.kd,I4 q.tb,I4 q.cl,I4 q.lo,I4 q.hi,I4 q.bq,I4 q.ot,I4 te,I4 base,.slice pz Z.length cz]) ZD I3 Y B5 (by exact Az V)) ?_;refine Xe (BJ I3 Y Y K0 Wu (by exact Dz rfl) G4 B0 (by exact BB _)) ?_;refine A4<|AL<|D7 rfl results88 Y Wh (Av ZD I3 Wn (Az rfl)) (by exact ⟨pz,cz,sz++MM,by rw [j3],⟨W,Xc (by rw [K,<-j3];exact G) A0 af,by rw [gm];exact cO⟩,rfl⟩)
structure Et(qs:List (Int×QM))(es:Array MapEntry)(ck:Nat)(lm:List (Int×A2)):Prop where
 map:Co (fun n:Int=>Value.int .i64 n) es ck lm
 mem:∀p,p∈lm↔∃x∈qs,p=(x.1,(.agg #[I4 x.2.kd,I4 x.2.tb,I4 x.2.cl,I4 x.2.lo,I4 x.2.hi,I4 x.2.bq,I4 x.2.ot]:A2))
 ids:(qs.map (·.1)).Nodup
theorem PK{β:Type}(p:β×A2)(k:β)(v v0:A2){A:Prop}:(p=(k,v)\/((p=(k,v0)\/(A/\p.1≠k))/\p.1≠k))↔(p=(k,v)\/(A/\p.1≠k)):=by
 constructor
 · rintro (h|⟨h|⟨h,_⟩,hn⟩)
   · exact .inl h
   · exact absurd (by rw [h]) hn
   · exact .inr ⟨h,hn⟩
 · rintro (h|⟨h,hn⟩)
   · exact .inl h
   · exact .inr ⟨.inr ⟨h,hn⟩,hn⟩
theorem qK:Et [] #[] 0 []:=⟨EU _,fun p=>by simp,oE⟩
theorem Et.none{qs:List (Int×QM)}{es:Array MapEntry}{ck:Nat}{lm:List (Int×A2)}(h:Et qs es ck lm){id:Int}(hn:∀x∈qs,x.1≠id):EM id lm=none:=DY fun p m=>by
 obtain ⟨x,hx,rfl⟩:=(h.mem p).1 m;exact hn x hx
variable{qs:List (Int×QM)}{es:Array MapEntry}{ck:Nat}{lm:List (Int×A2)}
theorem Et.get(h:Et qs es ck lm){x:Int×QM}(hx:x∈qs):EM x.1 lm=some (.agg #[I4 x.2.kd,I4 x.2.tb,I4 x.2.cl,I4 x.2.lo,I4 x.2.hi,I4 x.2.bq,I4 x.2.ot]:A2):=D8 h.map.keys ((h.mem _).2 ⟨x,hx,rfl⟩)
theorem Et.len(h:Et qs es ck lm):lm.length=qs.length:=by
 have B:(lm.map (·.1)).Perm (qs.map (·.1)):=(T7 h.map.keys h.ids).2 fun a=>by
  constructor
  · intro m
    obtain ⟨p,G,rfl⟩:=CI.1 m;obtain ⟨x,hx,rfl⟩:=(h.mem p).1 G;exact Fk hx
  · intro m
    obtain ⟨x,hx,rfl⟩:=CI.1 m;exact CI.2 ⟨_,(h.mem _).2 ⟨x,hx,V⟩,V⟩
 have:=B.length_eq;simpa using this
theorem qM(h:Et qs es ck lm){id:Int}{q:QM}(hn:∀x∈qs,x.1≠id){G:Array MapEntry}{B:Nat}{m:List (Int×A2)}(K:Co (fun n:Int=>Value.int .i64 n) G B m)
 (O:∀p,p∈m↔p=(id,(.agg q.BM5:A2))\/(p∈lm/\p.1≠id)):Et (qs++[(id,q)]) G B m:=by
 refine ⟨K,fun p=>?_,?_⟩
 · rw [O,h.mem]
   constructor
   · rintro (rfl|⟨⟨x,hx,rfl⟩,_⟩)
     · exact ⟨(id,q),by simp,rfl⟩
     · exact ⟨x,G1 _ hx,rfl⟩
   · rintro ⟨x,hx,rfl⟩
     rcases CD.1 hx with hx|hx
     · exact .inr ⟨⟨x,hx,rfl⟩,hn x hx⟩
     · rw [CH.1 hx];exact .inl rfl
 · rw [CN,HX]
   refine ⟨h.ids,by simp,fun a I b J=>?_⟩;obtain ⟨x,hx,rfl⟩:=CI.1 I;obtain rfl:=CH.1 J;exact hn x hx
theorem qL(h:Et qs es ck lm)(id:Int){G:Array MapEntry}{B:Nat}{m:List (Int×A2)}(J:Co (fun n:Int=>Value.int .i64 n) G B m)(K:∀p,p∈m↔p∈lm/\p.1≠id):Et (qs.filter fun x=>x.1≠id) G B m:=by
 refine ⟨J,fun p=>?_,(h.ids.sublist ((cC).map _))⟩;rw [K,h.mem];constructor
 · rintro ⟨⟨x,hx,rfl⟩,hn⟩
   exact ⟨x,GF.2 ⟨hx,by simpa using hn⟩,V⟩
 · rintro ⟨x,hx,rfl⟩
   obtain ⟨I,h2⟩:=GF.1 hx;exact ⟨⟨x,I,V⟩,by simpa using h2⟩
theorem nC:BS prog 34 #[] [] (fun r H'=>∃m mq,r=I5 m/\H'=[[(m,.cells #[.map (some mq),.pointer none] 200 (0,0))],[(mq,.map #[] 0)]]):=by
 refine Se func34 ntmps34 [] ?_;intro u R;refine A3<|AH Y<|A3<|Ze (DV)<|AF fun mq=>Zv (BN (vs:=[(0,_)]) (cs:=#[_,_]) Y (Aa (pl:=#[(0,1),(1,1)]) zeroValue200 S4 (fun _=>by kernel_rfl) V))<|Ze (Bx #[_,_])<|AF fun m=>An Y<|AO V results34 Y (by exact ⟨m,mq,V,V⟩)
variable{lv:A2}
theorem Xg{J mq:Nat}(m:Et qs es ck lm){x:Int×QM}(hx:x∈qs):BS prog 95 #[I5 J,I4 x.1] [[(J,.cells #[.map (some mq),lv] 200 (0,0))],[(mq,.map es ck)]] (fun r H'=>∃G B X,r= .bool true/\Et (qs.filter fun y=>y.1≠x.1) G B X/\H'=[[(J,.cells #[.map (some mq),.pointer none] 200 (0,0))],[(mq,.map G B)]]):=by
 have hg:=m.get hx;refine Se func95 ntmps95 [0,1] ?_;intro u R;refine A3<|AH Y<|B8 Y<|Zv (Bb underlying105 Y Y)<|A4<|AY Y (fun I=>by cases I)<|fun I=>B3<|AK Y<|Zp Y rfl<|Zh 0 S4 rfl rfl fY Y<|Zl fk Y<|Zm Y<|Zo Wh (EO (Cf D3 (D:=fun _=>True)) eN RC m.map (fun _ _=>trivial) (trivial) (⟨by rw [hg];first|done|rfl,by rw [hg];first|done|rfl⟩) Y Y)<|Zm Y<|Zd Y rfl<|Zd Y rfl<|Ze (Al RC #[_,_,_,_,_,_,_])<|AF fun b1=>Xe (Xw D4 _)<|B2 Y<|Zn [0,1,6] ?_;refine Zx<|AK Y<|Zp Y V<|Zh 0 S4 V rfl fY Y<|Zl fk Y<|Zm Y<|Ze (M4 (Cf D3 (D:=fun _=>True)) eN m.map (fun _ _=>trivial) (trivial) Y Y Wo) ?_;rintro _ _ ⟨rfl,O,K,Z,U,W,rfl⟩;refine A4<|AK Y<|Zp Y V<|Zh 1 S4 V rfl cY Y<|Xe (Zs cY Y Y V)<|A4<|AK Y<|An Y<|AO V results95 Y (by exact ⟨O,K,Z,V,qL m _ U W,V⟩)
theorem nD{K mq:Nat}(m:Et qs es ck lm){id:Int}(J:∀x∈qs,x.1≠id){q:QM}(hq:BH q)(hl:qs.length<500):BS prog 96 #[I5 K,I4 id,(.agg q.BM5:A2)] [[(K,.cells #[.map (some mq),lv] 200 (0,0))],[(mq,.map es ck)]] (fun r H'=>∃G B cO,r=I4 0/\Et (qs++[(id,q)]) G B cO/\H'=[[(K,.cells #[.map (some mq),.pointer none] 200 (0,0))],[(mq,.map G B)]]):=by
 have X:=m.none J;have gq:=m.len
 refine Se func96 ntmps96 [0,1,2] ?_;intro u R;refine A3<|Ze (Bx #[_,_,_,_,_,_,_])<|AF fun b1=>AH Y<|B8 Y<|Zv (Bb underlying105 Y Y)<|A4<|AY Y (fun I=>by cases I)<|fun I=>B3<|B8 Y<|Zp Y rfl<|Zh 0 S4 rfl rfl fY Y<|Zl fk Y<|Zm Y<|Zo Wh (EO (Cf D3 (D:=fun _=>True)) eN RC m.map (fun _ _=>trivial) (trivial) (⟨by rw [X];first|done|rfl,by rw [X];first|done|rfl⟩) Y Y)<|Zm Y<|Zd Y rfl<|Zd Y rfl<|Ze (Al RC #[_,_,_,_,_,_,_])<|AF fun b2=>Xe (Xw D4 _)<|B2 Y<|Zn [0,1,5,8] ?_;refine Zx<|AK Y<|Zm Y<|Ad (t:=21) Y V (fun g1=>by cases g1)<|fun g1=>D6 Y Wh (Pa #[_,_,_,_,_,_,_] Fm D4 Y) V rfl<|Xr [_] Y call63 Y V (Js q) ?_;rw [DE hq];refine Yg (Bo Y)<|B9 Y Y<|Zm Y<|Ad (t:=26) Y V (fun g2=>by cases g2)<|fun g2=>Zf Y Y<|Yg (Ao Y V)<|Yf 0 S4 V rfl fY Y<|Yl fk Y<|D6 Y Wh (Qt eN m.map Y) V rfl<|Yg (Ef (n:=500) Y Y)<|B9 Y Y<|Z0<|Zn [0,1,5,33] ?_;refine Zx<|Ak Y (fun h8=>by omega)<|fun h8=>B3<|Zq<|Ay (n:=13) (0::1::3::7::0::0::0::31::159::479::1023::2047::4095::[]) 4736 AD AD rfl<|A1 0 rfl (AP Y)<|A1 1 rfl (Ao Y rfl)<|A1 2 rfl (AB (off:=0) S4 rfl rfl fY Y)<|Bm 3 rfl fk Y<|A1 4 rfl (AP Y)<|A1 5 rfl (AP Y)<|G3 6 rfl Wh (Pa #[_,_,_,_,_,_,_] Fm D4 Y)<|Yz 7 31 255 [6,3] [true,false] [(6,(_,_))] rfl Y rfl rfl rfl rfl (L6 (Cf D3 (D:=fun _=>True)) eN RC m.map (fun _ _=>trivial) (trivial) (by rw [X];first|done|rfl) Y Y Wo) ?_;rintro _ _ ⟨gm,ek,gy,j3,gQ,rfl,af,Z,W,bn,rfl⟩;refine C3<|A1 8 V (C9 Y V)<|Zz (l:=[9])<|BW [false] [] V rfl (JB af Z W Y Y Y Wo) ?_ (fun _ _ h=>h.elim) Aj;rintro _ _ ⟨rfl,U,O,d9,ax,cu,rfl⟩;refine C3<|A1 10 V (Ao Y V)<|A1 11 V (AB (off:=1) S4 V rfl cY Y)<|Zz (l:=[12])<|BW [] [] V rfl (Zs cY Y Y V) ?_ (fun _ _ h=>h.elim) Aj;rintro _ _ ⟨rfl,rfl⟩;refine C3<|Aq<|Zn [] ?_;refine C6<|An Y<|AO rfl results96 Y (by exact ⟨U,O,d9,rfl,qM m J ax (fun p=>by rw [cu,bn];exact PK _ _ _ _),rfl⟩)
structure IvM where
 lo:Int
 hi:Int
 rc:Int
 id:Int
deriving Inhabited
def VC(M:List A8)(v:A2)(l:List IvM):Prop:=∃p cap,v= .slice p l.length cap/\(l.length<=maxLen/\l.length<=cap)/\∀(i:Nat) (x:IvM),l[i]?=some x->∃g off cur T zz,p=some ⟨g,off,none⟩/\(g,Obj.cells cur T zz)∈M/\off+i*4+4<=cur.size/\cur.extract (off+i*4) (off+i*4+4)=#[I4 x.lo,I4 x.hi,I4 x.rc,I4 x.id]
variable{l:List IvM}
theorem VC.mono{m:List A8}(h:VC M v l)(K:∀c∈M,c∈m):VC m v l:=by
 obtain ⟨p,cap,e,J,I⟩:=h;refine ⟨p,cap,e,J,fun i x hx=>?_⟩;obtain ⟨g,off,cur,T,zz,B,h2,G⟩:=I i x hx;exact ⟨g,off,cur,T,zz,B,K _ h2,G⟩
theorem VC.take{p:BE}{cap:Nat}(h:VC M (.slice p l.length cap) l){k:Nat}(G:k<=l.length):VC M (.slice p k cap) (l.take k):=by
 obtain ⟨J,m,e,I,B⟩:=h;injection e with e1 e2 e3
 subst e1 e3;refine ⟨p,cap,by rw [Cd,SR G],by rw [Cd];omega,fun i x hx=>B i x ?_⟩;rw [HR]at hx;split at hx;· exact hx
 · cases hx
def yI(a b:Int):Int:=if a<b then-1 else if b<a then 1 else 0
theorem eD(a b:Int):yI a b<0↔a<b:=by
 unfold yI;split;· exact ⟨fun _=>by assumption,fun _=>by decide⟩
 · split
   · exact ⟨fun h=>absurd h B0,fun h=>by omega⟩
   · exact ⟨fun h=>absurd h B0,fun h=>by omega⟩
theorem PN{α:Type}(p:α->Bool):∀{l:List α} {e:Nat},e<=l.length->(∀(k:Nat) (x:α),k<e->l[k]?=some x->p x=true)->(∀(k:Nat) (x:α),e<=k->l[k]?=some x->p x=false)->l.takeWhile p=l.take e
 |[],e,_,_,_=>by simp
 |x::l,0,_,_,h2=>by rw [S7,As (by rw [h2 0 x (D0 _) rfl];decide),JT]
 |x::l,e+1,he,h1,h2=>by
  rw [S7,Ax (h1 0 x A0 rfl),nc,PN p (by simpa using he) (fun k y m hy=>h1 (k+1) y A0 hy) (fun k y m hy=>h2 (k+1) y A0 hy)]
def J8(v:Int)(l:List IvM):List Int:=(((l.takeWhile fun x=>decide (x.lo<=v)).reverse.takeWhile fun x=>decide (v<=x.rc)).filter fun x=>decide (v<=x.hi)).map (·.id)
def Nw(v:Int)(l:List (Nat×IvM)):List Int:=((l.map (·.2)).filter fun x=>decide (v<=x.hi)).map (·.id)
theorem Tz(v:Int)(l:List (Nat×IvM))(x:Nat×IvM):Nw v (l++[x])=Nw v l++(if v<=x.2.hi then [x.2.id]else []):=by
 unfold Nw;rw [CN,L7,CN];congr 1;by_cases h:v<=x.2.hi;· rw [Ax h];simp [h]
 · rw [As h];simp [h]
theorem Nt{α:Type}(p:α->Bool):∀{l:List α},(∀x∈l,p x=true)->l.takeWhile p=l
 |[],_=>rfl
 |x::l,h=>by rw [S7,Ax (h x (Fo ..)),Nt p fun y hy=>h y (GB _ hy)]
theorem M7{α:Type}(p:α->Bool){x:α}(hx:p x=false)(m:List α):∀{l:List α},(∀y∈l,p y=true)->(l++x::m).takeWhile p=l
 |[],_=>by rw [N4,S7,As (by rw [hx];decide)]
 |y::l,h=>by rw [SO,S7,Ax (h y (Fo ..)),M7 p hx m fun z hz=>h z (GB _ hz)]
variable{e:Nat}
theorem AB5{v:Int}(m:l.takeWhile (fun x=>decide (x.lo<=v))=l.take e)(h:∀y∈bwd (l.take e),v<=y.2.rc):Nw v (bwd (l.take e))=J8 v l:=by
 unfold Nw J8;rw [m,Le,Nt];intro x hx;rw [<-Le]at hx;obtain ⟨y,hy,rfl⟩:=CI.1 hx;exact DE (h y hy)
theorem rX{v:Int}(G:l.takeWhile (fun x=>decide (x.lo<=v))=l.take e){pre m:List (Nat×IvM)}{x:Nat×IvM}(B:bwd (l.take e)=pre++x::m)(h:∀y∈pre,v<=y.2.rc)(hx:x.2.rc<v):Nw v pre=J8 v l:=by
 unfold Nw J8;rw [G,<-Le,B,CN,Fc,M7 _ (by simpa using hx)];intro z hz;obtain ⟨y,hy,rfl⟩:=CI.1 hz;exact DE (h y hy)
theorem kF{v:Int}(O:l.takeWhile (fun x=>decide (x.lo<=v))=l.take e){pre m:List (Nat×IvM)}{x:Nat×IvM}(K:bwd (l.take e)=pre++x::m)(h:∀y∈pre++[x],v<=y.2.rc)(hx:v<=x.2.hi):∃G,J8 v l=Nw v pre++x.2.id::G:=by
 unfold Nw J8;have J:∀{A:List IvM} {B:List IvM},(∀y∈A,decide (v<=y.rc)=true)->∃C,(A++B).takeWhile (fun x=>decide (v<=x.rc))=A++C:=fun{A B} hA=>by
  induction A with
  |nil=>exact ⟨_,rfl⟩
  |cons a A ih=>
   obtain ⟨C,I⟩:=ih fun y hy=>hA y (GB _ hy);exact ⟨C,by rw [SO,S7,Ax (hA a (Fo ..)),I,SO]⟩
 rw [O,<-Le,K,show pre++x::m=(pre++[x])++m by simp,CN];obtain ⟨C,I⟩:=J (A:=(pre++[x]).map Prod.snd) (B:=m.map Prod.snd) fun z hz=>by
  obtain ⟨y,hy,rfl⟩:=CI.1 hz;exact DE (h y hy)
 rw [I,CN,L7,L7,CN,CN];refine ⟨(C.filter fun x=>decide (v<=x.hi)).map (·.id),?_⟩;simp [hx]
theorem UV(x:Int):Au prog 294 #[I4 x] [] (.bool false):=by
 refine Se func294 ntmps294 [0] ?_;intro u R;refine A3<|AH Y<|AK Y<|Zm Y<|Zv (I8 Y Y)<|An Y<|AO V results294 Y (by exact ⟨by simp,V⟩)
theorem Yh(a b:Int):Au prog 248 #[I4 a,I4 b] [] (I4 (yI a b)):=by
 refine Se func248 ntmps248 [0,1] ?_;intro u R;refine A3<|AH Y<|AK Y<|Xr [_] Y call294 Y V (UV _)<|AH Y<|AK Y<|Xr [_] Y call294 Y V (UV _)<|AH Y<|B8 Y<|A4<|AY Y (fun m=>by cases m)<|fun m=>B3<|B8 Y<|A4<|AY Y (fun h2=>by cases h2)<|fun h2=>B3<|B8 Y<|Zm Y<|Zv (Dy Y Y)<|A4<|Ak Y (fun B=>?_) (fun B=>?_);focus
  refine A3<|B2 Y<|Zn [4] ?_;refine Zx<|AL<|Zt ?_
 rotate_left
 focus
  refine B3<|B8 Y<|Zm Y<|Zv (F4 Y Y)<|Z0<|Zn [19] ?_;refine Zx<|Ak Y (fun G=>?_) (fun G=>?_);focus
   refine A3<|An Y<|Zt ?_
  rotate_left
  focus
   refine AC<|C6<|AH Y<|AL ?_
 all_goals
  refine AO V results248 Y (by exact ⟨by unfold yI;simp [*],V⟩)
theorem bI(x:IvM)(t:Int):Au prog 270 #[.agg #[I4 x.lo,I4 x.hi,I4 x.rc,I4 x.id],I4 t] [] (I4 (yI x.lo t)):=by
 refine Se func270 ntmps270 [0,1] ?_;intro u R;refine A3<|Ze (Bx #[_,_,_,_])<|AF fun m=>AH Y<|A3<|Zh 0 al V rfl A6 Y<|Zl AE Y<|Zm Y<|Xr [_,_] Y call248 Y V (Yh _ _)<|An Y<|AO V results270 Y (by exact ⟨V,V⟩)
theorem Yo(hv:VC M v l)(hn:l.length<=1000000)(hs:l.Pairwise fun a b=>a.lo<=b.lo)(t:Int):BS prog 269 #[v,I4 t,.func (.func 270) #[] #[]] [M] (fun r H'=>∃(e:Nat) (b:Bool),r= .tuple #[I4 (e:Int),.bool b]/\e<=l.length/\(∀(k:Nat) (x:IvM),k<e->l[k]?=some x->x.lo<t)/\(∀(k:Nat) (x:IvM),e<=k->l[k]?=some x->t<=x.lo)/\H'=[M]):=by
 have bn:=mL;obtain ⟨p,cap,rfl,⟨hl,ax⟩,hg⟩:=id hv;have G:∀(i j:Nat) (x y:IvM),i<=j->l[i]?=some x->l[j]?=some y->x.lo<=y.lo:=fun i j x y W hx hy=>by
  rcases Fi i j with h|h
  · obtain ⟨h1,rfl⟩:=C7.1 hx
    obtain ⟨h2,rfl⟩:=C7.1 hy;exact ft.1 hs i j h1 h2 h
  · obtain rfl:i=j:=by omega
    rw [hx]at hy;injection hy with hy;rw [hy];exact Z1 _
 refine Se func269 ntmps269 [0,1,2] ?_;intro u R;refine A3<|Za Y<|AH Y<|AK Y<|Zv (AR iv Y)<|AH Y<|AK Y<|Za Y<|CT Y<|AQ<|Zb [9,10,0,1,2,8] ?_;refine Aw (e0:=[(9,_),(10,_)]) (fun m e H=>∃(i j:Nat),m=j -i/\((i<=j/\j<=l.length)/\(∀(k:Nat) (x:IvM),k<i->l[k]?=some x->x.lo<t)/\(∀(k:Nat) (x:IvM),j<=k->l[k]?=some x->t<=x.lo))/\e=[(9,I4 (i:Int)),(10,I4 (j:Int))]/\H=[]) (by exact ⟨0,l.length,rfl,⟨⟨CM _,D0 _⟩,fun k x h=>absurd h (iS k),fun k x h hx=>by rw [Of h]at hx;cases hx⟩,rfl,rfl⟩) Wp ?_;rintro _ _ _ ⟨i,j,rfl,⟨⟨W,X⟩,K,J⟩,rfl,rfl⟩;refine B8 Y<|Zm Y<|Zv (Ap Y Y)<|A4<|Ak Y (fun Z=>?_) (fun Z=>?_);·
  refine B3<|AQ<|AK Y<|Zm Y<|Ya Y Y ?_;refine BX (Me D3 W7 Y A0)<|BX (Qo (n:=1) Y Y (by first|decide|(simp [IntKind.bits];done)|(simp [IntKind.bits];omega)))<|BX (UD W7 D3 Y A0)<|AH Y<|Zq ?_;obtain ⟨h,hh⟩:∃h,h=(i+j)/2^1:=⟨_,rfl⟩;rw [<-hh];have af:i<=h/\h<j:=by rw [hh];omega
  obtain ⟨x,hx⟩:∃x,l[h]?=some x:=⟨_,BT A0⟩;obtain ⟨g,off,cur,T,zz,rfl,I,O,B⟩:=hg _ _ hx;refine Zg<|Zm Y<|Zm Y<|Zm Y<|BX (AZ iv RM Y Y A0)<|Bu (HY Wo (I)) (A9 (cs:=#[_,_,_,_]) isAgg323 RM Y A0 B) V rfl<|Zm Y<|Xr [_,_] Y call270 Y V (bI x t)<|Zv (Dy Y Y)<|Z0<|Zn [0,1,2,8,9,10,11,31] ?_;refine Zx<|Ak Y (fun U=>?_) (fun U=>?_);·
   refine Zg<|Zm Y<|Ya (n:=1) Y Y<|B2 Y<|AA<|HJ (by exact ⟨h+1,j,V,⟨⟨by omega,by omega⟩,fun k y hk hy=>by have:=G k h y x A0 hy hx;have:=(eD _ _).1 U;omega,J⟩,V,V⟩)
  refine Zg<|Zm Y<|B2 Y<|AA<|HJ (by exact ⟨i,h,V,⟨⟨by omega,by omega⟩,K,fun k y hk hy=>by have:=G h k x y hk hx hy;have:=mt (eD x.lo t).2 U;omega⟩,V,V⟩)
 obtain rfl:i=j:=by omega
 refine BA<|Zt<|Zt<|AX<|Zx<|AK Y<|Zm Y<|Zm Y<|Zv (Ap Y Y)<|Zm Y<|Af (t:=39) Y V (fun h5=>?_) (fun h5=>?_);focus
  obtain ⟨x,hx⟩:∃x,l[i]?=some x:=⟨_,BT A0⟩;obtain ⟨g,off,cur,T,zz,rfl,I,O,B⟩:=hg _ _ hx;refine Zf Y Y<|Zf Y Y<|Zf Y Y<|Gy Y (AZ iv RM Y Y A0) V rfl ?_;refine Mf Y (HY Wo (I)) (A9 (cs:=#[_,_,_,_]) isAgg323 RM Y A0 B) V rfl ?_;refine Zf Y Y<|Xr [_,_] Y call270 Y V (bI x t)<|Yg (CO Y Y)<|Zv (AU Y Y) ?_
 rotate_left
 focus
  refine AG<|AG<|AG<|AG<|Zv (AJ Y Y) ?_
 all_goals
  refine Za Y<|B2 Y<|Zn [6,7] ?_;refine Zx<|AL<|DR V results269 Y Y (by exact ⟨i,_,V,X,K,J,V⟩)
theorem eY(p:BE)(n c:Nat):BS prog 271 #[.slice p n c] [] (fun r H'=>∃b,r= .func (.func 302) #[] #[I5 b]/\H'=[[(b,.cells #[.slice p n c] 324 (0,0))]]):=by
 refine Se func271 ntmps271 [0] ?_;intro u R;refine A3<|Ze (Bx #[_])<|AF fun b=>AH Y<|A3<|Zv (Be (vs:=[]) (us:=[_]) Y Y)<|An Y<|AO V results271 Y (by exact ⟨_,V,V⟩)
theorem eZ{ls:List IvM}(hv:VC M v ls)(b:Nat)(hn:ls.length<=1000000):Ni prog 302 #[I5 b] [[(b,.cells #[v] 324 (0,0))]] (fun s=>∀c∈M,c∈s) (fun x:Nat×IvM=>#[I4 ((x.1:Nat):Int),.agg #[I4 x.2.lo,I4 x.2.hi,I4 x.2.rc,I4 x.2.id]]) (bwd ls):=by
 have bn:=mL;obtain ⟨p,cap,rfl,hl,hg⟩:=hv;intro l J Jx hA hy s B;refine Se func302 ntmps302 [0,1] ?_;intro u R;refine A3<|Zl isAgg324 Y ?_;refine Zv (AR iv Y) ?_
 (refine BX (GZ Y Y (IntWalk.i64_in _ ?_)) ?_;(focus (omega)))
 refine AH Y<|AQ<|Zb [3,0,1] ?_;refine Aw (e0:=[(3,_)]) (fun m e H=>∃(k:Nat) (s:List A8),m=0+k/\(k<=ls.length/\J ((bwd ls).take (ls.length -k)) s)/\e=[(3,I4 ((k:Int) -1))]/\H=[[(b,.cells #[.slice p ls.length cap] 324 (0,0))],s]) (by exact ⟨ls.length,s,rfl,⟨D0 _,by rw [W5,JT];exact B⟩,rfl,rfl⟩) Wp ?_;rintro _ _ _ ⟨k,s,rfl,⟨hk,B⟩,rfl,rfl⟩;refine B8 Y<|Zv (Ga Y Y)<|A4<|Ak Y (fun X=>?_) (fun X=>?_);·
  obtain ⟨m,rfl⟩:∃m,k=m+1:=⟨k -1,by omega⟩;rw [show(((m+1:Nat):Int) -1)=((m:Nat):Int) by omega];obtain ⟨z9,O⟩:∃z9,ls[m]?=some z9:=⟨_,BT A0⟩;have I:=Yn O
  obtain ⟨g,o,cur,T,zz,rfl,hm,ax,K⟩:=hg m z9 O;have Z:=hy _ _ _ s (M9 I) B
  refine B3<|Zq<|AQ<|AK Y<|Zm Y<|Zl isAgg324 Y ?_;refine Zm Y<|BX (AZ iv RM Y Y A0)<|Bu (HY Wo (hA _ s B _ hm)) (A9 (cs:=#[_,_,_,_]) isAgg323 RM Y A0 K) V rfl ?_;refine Ze (GH (vs:=[_,_]) Y Y (Z) Wp) ?_;rintro _ _ ⟨_,⟨s',rfl,af⟩,rfl⟩;rcases af with⟨rfl,U⟩|⟨rfl,hJx⟩
  ·
   refine Zv (Bo Y)<|A4<|AY Y (fun G=>by cases G)<|fun G=>AC<|AA<|Zx<|Zg<|Zm Y ?_
   (refine BX (GZ Y Y (IntWalk.i64_in _ ?_)) ?_;(focus (omega)))
   refine B2 Y<|DG (e:=[(3,_)]) (h:=by exact ⟨m,s',rfl,⟨by omega,by rw [show ls.length -m=ls.length -(m+1)+1 by omega,Bl I];exact U⟩,rfl,rfl⟩)
  refine Zv (Bo Y)<|A4<|AY Y (fun G=>?_) (fun G=>?_);·
   refine AL<|Ag<|Zt<|Zt<|Ag ?_;refine DC V results302 (by exact ⟨s',V,.inr ⟨_,hJx⟩⟩)
  cases G
 have W:k=0:=by omega
 subst W;rw [Sf,Kx (by rw [SY];exact D0 _)]at B;refine BA<|Zt<|Zt<|AX<|DC V results302 (by exact ⟨s,V,.inl B⟩)
theorem Ye(hv:VC M lv l)(hn:l.length<=1000000)(hs:l.Pairwise fun a b=>a.lo<=b.lo)(v:Int)(j3:-1000000000000<=v/\v<=1000000000000)(bl X:Nat):Eg prog 268 #[I5 bl,I5 X] [[(bl,.cells #[lv] 324 (0,0))],[(X,.cells #[I4 v] 3 (0,0))]] (fun s=>∀c∈M,c∈s) (fun i:Int=>#[I4 i]) (J8 v l):=by
 have ic:=mL;obtain ⟨p,cap,rfl,⟨hl,gQ⟩,hg⟩:=id hv;intro ly J hA hy s G;refine DF func268 V ntmps268 V ?_;intro u R;refine Zb [0,1,2] ?_;refine A3<|Ze (Bx #[_])<|AF fun by_=>A4<|A3<|Zl isAgg324 Y ?_;refine Zl AE Y ?_;refine Yi Y Y<|Zc [_,_,_] Y call269 Y V (Yo (hv.mono (hA _ s G)) hn hs (v+1)) ?_;rintro _ _ ⟨_,⟨e,fb,rfl,U,bn,cu,rfl⟩,rfl⟩;have O:l.takeWhile (fun x=>decide (x.lo<=v))=l.take e:=PN _ U (fun k x hk hx=>DE (by have:=bn k x hk hx;omega)) (fun k x hk hx=>DQ (by have:=cu k x hk hx;omega))
 refine Zm Y<|Zd Y V<|Zd Y V<|Za Y<|AH Y<|A3<|Zl isAgg324 Y ?_;refine Zm Y<|BX (Bn iv RM Y Y A0)<|Zc [_] Y call271 Y V (eY _ _ _) ?_;rintro _ _ ⟨_,⟨bb,rfl,rfl⟩,rfl⟩;refine Z0<|Zn [2,3,18] ?_;refine Zx<|AQ<|Zb [2,3,18] ?_;refine Yt (Ix:=(fun(_:List (Nat×IvM)) H=>∃s,J (J8 v l) s/\H=[[(X,.cells #[I4 v] 3 (0,0))],[(by_,.cells #[.func (.yield ly) #[] #[]] 101 (0,0))],s])) (H0:=_) (R:=_) (I:=(fun(pre:List (Nat×IvM)) H=>∃s,(J (Nw v pre) s/\∀y∈pre,v<=y.2.rc)/\H=[[(X,.cells #[I4 v] 3 (0,0))],[(by_,.cells #[.func (.yield ly) #[] #[]] 101 (0,0))],s])) (E:=fun x e Hn=>∃bx,e=[(7,I5 bx),(20,.agg #[I4 x.2.lo,I4 x.2.hi,I4 x.2.rc,I4 x.2.id]),(19,I4 ((x.1:Nat):Int))]/\Hn=[[(bx,.cells #[I4 x.2.lo,I4 x.2.hi,I4 x.2.rc,I4 x.2.id] 323 (0,0))]]) rfl Y call302 (eZ (hv.take U) bb (by rw [Cd];omega)) (by rintro pre _ c d ⟨s,Z,rfl⟩;intro q hq;have:=hA _ s Z.1 q hq;simp [this]) Y rfl Wp (⟨s,⟨G,fun y hy=>by simp at hy⟩,rfl⟩) ?ha_2 ?hbd_2 ?hk_2 ?hkx_2
 case' ha_2=>
  intro _ x _ _;refine Zg<|Ze (Al zeroValue323 #[_,_,_,_])<|AF fun b2=>Xe (Xw RM _) ?_;refine Z0<|LP (e:=[(7,_),(20,_),(19,_)]) (Hn:=[[(_,_)]]) ?_;exact ⟨_,V,V⟩
 case' hbd_2=>
  intro l pre x gm u e9 gy H1 R1 r9 W hI af;obtain ⟨bx,rfl,rfl⟩:=af;obtain ⟨s,⟨G,B⟩,rfl⟩:=hI;refine AQ<|Zq<|A3<|Zh 2 al V rfl A6 Y<|Zl AE Y ?_;refine Zl AE Y ?_;refine Zv (Dy Y Y)<|A4<|Ak Y (fun Z=>?_) (fun Z=>?_);·
   refine AL<|Zt<|Ag ?_;refine oq rfl (by exact ⟨s,by rw [<-rX O W B Z];exact G,rfl⟩)
  have m:∀y∈pre++[x],v<=y.2.rc:=fun y hy=>(CD.1 hy).elim (B y) (fun h=>by rw [CH.1 h];omega);refine AC<|C6<|Zh 1 al V rfl A6 Y<|Zl AE Y ?_;refine Zl AE Y ?_;refine Zv (Ga Y Y)<|Zm Y<|Af (t:=29) Y V (fun h2=>?_) (fun h2=>?_);·
   obtain ⟨ek,cO⟩:=kF O W m h2;have d9:=hy _ _ _ s cO G
   refine Yl isAgg101 Y ?_;refine Yf 3 al V rfl A6 Y<|Yl AE Y ?_;refine Ze (GH (vs:=[_]) Y Y (d9) Wp) ?_;rintro _ _ ⟨_,⟨s',rfl,rfl,ax⟩,rfl⟩;refine Yg (Bo Y)<|C1 Y Y<|Z0<|Zn [35] ?_;refine Zx<|AY Y (fun hb=>by cases hb)<|fun hb=>AC<|AA<|Wy rfl (by exact ⟨s',⟨by rw [Tz,Ax h2];exact ax,m⟩,rfl⟩)
  refine AG<|AG<|C4<|B9 Y Y<|Z0<|Zn [35] ?_;refine Zx<|Df Y<|AC<|AA<|Wy rfl (by exact ⟨s,⟨by rw [Tz,As h2,E7];exact G,m⟩,rfl⟩)
 case' hk_2=>
  intro D1 H2 K;obtain ⟨s,⟨G,B⟩,rfl⟩:=K;rw [AB5 O B]at G;refine Zn [] ?_;refine AA ?_
 case' hkx_2=>
  intro D1 gq H2 K;obtain ⟨s,G,rfl⟩:=K;refine Ag ?_
 all_goals
  refine G7 V (uJ results268) Wo (by exact ⟨s,V,G⟩)
end Go.Proofs.YtlkdhannldcfbabGreatDoor
namespace Go.Proofs
open Go.Shelf
def Tryz.sortIv_ren:Go.Shelf.Ren:=⟨fun|6=>265|15=>117|14=>301|28=>202|29=>203|20=>336|21=>337|22=>338|23=>339|24=>340|25=>341|26=>342|27=>343|46=>357|47=>275|48=>276|49=>358|50=>359|57=>365|n=>n,fun|22=>321|24=>323|25=>389|3=>3|39=>173|0=>0|53=>253|55=>256|4=>4|46=>333|45=>332|50=>337|5=>5|9=>9|66=>398|70=>168|76=>431|77=>432|n=>n,fun|n=>n⟩
theorem Tryz.sortIv:Go.Proofs.SlLaysF0.n6 prog Tryz.sortIv_ren:={
 mixed:=by kernel_rfl
 f6:=⟨Tryz.f265.name,by decide,func265.trans (congrArg some AD)⟩
 f14:=⟨Tryz.f301.name,by decide,func301.trans (congrArg some AD)⟩
 f15:=func117.trans (congrArg some AD)
 f20:=⟨Tryz.f336.name,by decide,func336.trans (congrArg some AD)⟩
 f21:=⟨Tryz.f337.name,by decide,func337.trans (congrArg some AD)⟩
 f22:=⟨Tryz.f338.name,by decide,func338.trans (congrArg some AD)⟩
 f23:=⟨Tryz.f339.name,by decide,func339.trans (congrArg some AD)⟩
 f24:=⟨Tryz.f340.name,by decide,func340.trans (congrArg some AD)⟩
 f25:=⟨Tryz.f341.name,by decide,func341.trans (congrArg some AD)⟩
 f26:=⟨Tryz.f342.name,by decide,func342.trans (congrArg some AD)⟩
 f27:=⟨Tryz.f343.name,by decide,func343.trans (congrArg some AD)⟩
 f28:=func202.trans (congrArg some AD)
 f29:=func203.trans (congrArg some AD)
 f46:=⟨Tryz.f357.name,by decide,func357.trans (congrArg some AD)⟩
 f47:=func275.trans (congrArg some AD)
 f48:=func276.trans (congrArg some AD)
 f49:=⟨Tryz.f358.name,by decide,func358.trans (congrArg some AD)⟩
 f50:=⟨Tryz.f359.name,by decide,func359.trans (congrArg some AD)⟩
 f57:=⟨Tryz.f365.name,by decide,func365.trans (congrArg some AD)⟩
 t0:=du
 a0:=isAgg0
 z0:=eJ
 v0:=dy
 t3:=D3
 a3:=AE
 z3:=A6
 v3:=HT
 t4:=N6
 a4:=G0
 z4:=F1
 v4:=V1
 t5:=N0
 a5:=V0
 z5:=Ks
 v5:=RE
 t9:=GW
 a9:=H3
 z9:=FG
 v9:=I2
 t22:=cL
 a22:=isAgg321
 z22:=sizeOf321
 v22:=zeroValue321
 t25:=underlying389
 a25:=isAgg389
 z25:=sizeOf389
 v25:=zeroValue389
 t39:=W7
 a39:=ff
 z39:=fW
 v39:=ep
 t45:=ov
 a45:=isAgg332
 z45:=sizeOf332
 v45:=pN
 t46:=ox
 a46:=isAgg333
 z46:=sizeOf333
 v46:=pP
 t50:=oe
 a50:=isAgg337
 z50:=sizeOf337
 v50:=pL
 t53:=Sp
 a53:=It
 z53:=HI
 v53:=er
 t55:=W8
 a55:=cI
 z55:=eA
 v55:=ew
 t66:=oy
 a66:=isAgg398
 z66:=sizeOf398
 v66:=pS
 t70:=p5
 a70:=isAgg168
 z70:=Z2
 v70:=ar
 t76:=p6
 a76:=isAgg431
 z76:=sizeOf431
 v76:=pT
 t77:=pA
 a77:=isAgg432
 z77:=sizeOf432
 v77:=pZ}
end Go.Proofs
namespace Go.Proofs.YtlkdhannldcfbabGreatDoor
open Go.Proofs.Tryz
open Go Go.RowKit Gw
set_option maxRecDepth 100000
attribute [local irreducible] Gw.At Gw.Nx Gw.Ops
open Go.Sort Go.Shelf
theorem kG(a b:IvM)(W:A5):Calls prog 266 #[.agg #[I4 a.lo,I4 a.hi,I4 a.rc,I4 a.id],.agg #[I4 b.lo,I4 b.hi,I4 b.rc,I4 b.id]] W fun e B=>e= .returned (I4 (Lib.compareInt a.lo b.lo))/\∃q m,B=grow (W.drewN q) m:=by
 go_enter func266,ntmps266
 go_wp2
 all_goals (try simp only [HA]at*)
 all_goals go_ret
 all_goals refine ⟨?_,0,_,by rw [alloc_eq_grow,alloc_eq_grow,grow_grow];rfl⟩
 all_goals (simp [Lib.compareInt]<;>(try split)<;>(first|rfl|omega))
def CK(l:List IvM):List A2:=l.flatMap fun x=>[I4 x.lo,I4 x.hi,I4 x.rc,I4 x.id]
instance:Inhabited IvM:=⟨⟨0,0,0,0⟩⟩
def O7(x:IvM):List A2:=[I4 x.lo,I4 x.hi,I4 x.rc,I4 x.id]
def eF(a b:IvM):Int:=Lib.compareInt a.lo b.lo
theorem Rf(l:List IvM):(CK l).length=l.length*4:=by
 induction l with
 |nil=>rfl
 |cons a l ih=>simp only [CK,Hv,C0,F2]at ih⊢;rw [ih];simp;omega
theorem ltI(a b:IvM):ltOf eF a b=decide (a.lo<b.lo):=by
 unfold ltOf eF Lib.compareInt;apply decide_eq_decide.2;split<;>(try split)<;>omega
theorem zO:SWO (ltOf eF)where
 irrefl x:=by rw [ltI];simp
 trans x y z h1 h2:=by rw [ltI]at*;simp only [HA]at*;omega
 ntrans x y z h1 h2:=by rw [ltI]at*;simp only [Q1]at*;omega
theorem gF(w:A2)(o:List IvM)(s:List A8)(hn:o.length<=1000000)(cO:BU 4 323 w o.length (CK o) s):
 BS prog 265 #[w,.func (.func 266) #[] #[]] [s]
  (fun r H'=>r= .tuple #[]/\∃(s':List A8) (o':List IvM),o'.Perm o/\(o'.Pairwise fun a b=>a.lo<=b.lo)/\BU 4 323 w o'.length (CK o') s'/\H'=[s']):=by
 obtain ⟨ek,⟨rfl,h0,rfl⟩|⟨g,cap,cur,z,rfl,rfl,cu,af,J,d9,W⟩⟩:=cO
 · intro u R w0 Z
   have ho:o=[]:=NX h0;subst ho;have hN:=AnyF.slices_SortFunc_none Tryz.sortIv none 0 (.func (.func 266) #[] #[]) w0
   exact hN.mono (by
    rintro e w' ⟨rfl,rfl⟩;exact .inl ⟨_,_,V,⟨V,[],[],.refl _,.nil,Bh _ _,V⟩,Z⟩)
 · intro u R w0 Z
   have hb:=Z.get (g,.cells cur 323 z) B7;have hH:=Ua (w:=w0) (g:=g) (cur:=cur) (e:=323) (z:=z) O7 4 (fun _=>rfl) o hb (by rw [J];omega) W d9
   have eg:∀(args:AN) (w:A5),(callFunc 266 args).run prog w= .ok (.enter 266 args) w:=enters_of func266 AD rfl;have O:CmpLays prog 266 #[] O7 4 eF g 0 o.toArray.size w0:=by
    intro m os dk gm x y;exact kG x y _
   have U:=AnyQ.slices_SortFunc Tryz.sortIv 4 isAgg323 RM O7 (fun _=>rfl) (fun x v hv=>by simp [O7]at hv;rcases hv with rfl|rfl|rfl|rfl<;>rfl) eF zO 266 #[] g 0 cap o.toArray w0 eg O hH (Z.lt (p:=(g,.cells cur 323 z)) B7) Kd;refine U.mono ?_;rintro e w' ⟨rfl,B,n,os,⟨ax,-,hpm⟩,hso,rfl⟩;have G:B.size=o.length:=by simpa using ax
   have hF:(flatK O7 4 B).toList=CK B.toList:=Od O7 4 (fun _=>rfl) B.toList;have K:(flatK O7 4 B).size=o.length*4:=by rw [size_flatK,G]
   have I:B.toList.Perm o:=by
    have e1:B.extract 0 o.toArray.size=B:=by
     rw [show o.toArray.size=B.size by rw [G];simp];exact Array.extract_size
    rw [e1]at hpm;simpa using hpm
   have X:B.toList.length=o.length:=I.length_eq;refine .inl ⟨_,[[(g,.cells (putCells id 0 (flatK O7 4 B) cur) 323 z)]],V,⟨V,_,B.toList,I,?_,?_,V⟩,Z.sortedK O7 B os⟩
   · rw [ft]
     intro i j hi hj bn;have h:=hso i j (CM _) bn Kd
     rw [ltI]at h;simp only [Q1]at h;rw [getElem!_pos B i (by simpa using hi),getElem!_pos B j (by simpa using hj)]at h;simp only [Array.getElem_toList];omega
   · rw [X]
     refine ⟨by rw [Rf,X],.inr ⟨g,cap,_,z,rfl,rfl,cu,af,by rw [NM];exact J,?_,by rw [NM];exact W⟩⟩;have h:=WV cur (flatK O7 4 B) (by rw [K,J];omega)
     rw [K,hF]at h;exact h
end Go.Proofs.YtlkdhannldcfbabGreatDoor
namespace Go.Proofs.YtlkdhannldcfbabGreatDoor
open Go.Proofs.Tryz
open Go Go.RowKit Gw
set_option maxRecDepth 100000
attribute [local irreducible] Gw.At Gw.Nx Gw.Ops
variable{l:List IvM}{i:Nat}{x:IvM}
theorem bW(h:l[i]?=some x):(CK l)[i*4+1]?=some (I4 x.hi)/\(CK l)[i*4+2]?=some (I4 x.rc):=by
 induction l generalizing i with
 |nil=>simp at h
 |cons a l ih=>
  cases i with
  |zero=>simp at h;subst h;exact ⟨rfl,rfl⟩
  |succ i=>
   have m:l[i]?=some x:=by simpa using h
   rw [show(i+1)*4+1=i*4+1+4 by omega,show(i+1)*4+2=i*4+2+4 by omega];exact ih m
theorem bV(h:l[i]?=some x)(r:Int):(CK l).set (i*4+2) (I4 r)=CK (l.set i {x with rc:=r}):=by
 induction l generalizing i with
 |nil=>simp at h
 |cons a l ih=>
  cases i with
  |zero=>simp at h;subst h;rfl
  |succ i=>
   have m:l[i]?=some x:=by simpa using h
   rw [show(i+1)*4+2=i*4+2+4 by omega];have:=ih m
   show _::_::_::_::(CK l).set (i*4+2) (I4 r)=_;rw [this];rfl
variable{cur:AN}{n:Nat}
theorem x8(B:cur.toList.take (n*4)=CK l)(h:l[i]?=some x):cur[i*4+1]?=some (I4 x.hi)/\cur[i*4+2]?=some (I4 x.rc):=by
 obtain ⟨m,h2⟩:=bW h;rw [<-B,HR]at m h2;constructor
 · by_cases hc:i*4+1<n*4
   · rw [Ax hc]at m;simpa using m
   · rw [As hc]at m;cases m
 · by_cases hc:i*4+2<n*4
   · rw [Ax hc]at h2;simpa using h2
   · rw [As hc]at h2;cases h2
theorem wy(m:cur.toList.take (n*4)=CK l)(h:l[i]?=some x)(r:Int):(cur.setIfInBounds (i*4+2) (I4 r)).toList.take (n*4)=CK (l.set i {x with rc:=r}):=by
 rw [ki,List.take_set,m,bV h]
theorem lM{g m:Nat}{z:Nat×Nat}(hn:l.length=n)(K:cur.toList.take (n*4)=CK l)(J:n<=m)(B:m<=maxLen)(G:cur.size=m*4)(I:Iq z cur.size):BU 4 323 (I6 g n m) l.length (CK l) [(g,.cells cur 323 z)]:=by
 subst hn;exact ⟨Rf l,.inr ⟨g,m,cur,z,V,V,J,B,G,K,I⟩⟩
def OY(x:IvM):Int×Int×Int:=(x.lo,x.hi,x.id)
def tJ(l:List IvM)(i:Nat):Prop:=∀(j k:Nat) (x y:IvM),j<=k->k<i->l[j]?=some x->l[k]?=some y->x.hi<=y.rc
theorem WI{r:Int}(h:tJ l i)(hx:l[i]?=some x)(O:x.hi<=r)(K:∀y,0<i->l[i -1]?=some y->y.rc<=r):tJ (l.set i {x with rc:=r}) (i+1):=by
 have I:=(C7.1 hx).1;intro j k a b J W m G;rw [W4]at m G;rcases Fi k i with hki|hki
 · rw [As A0]at m G
   exact h j k a b J hki m G
 · obtain rfl:k=i:=by omega
   rw [Ax rfl,Ax I]at G;injection G with G
   subst G;by_cases B:k=j;· rw [Ax B,Ax I]at m;injection m with m;subst m;exact O
   · rw [As B]at m
     obtain ⟨y,hy⟩:∃y,l[k -1]?=some y:=⟨_,BT A0⟩;have U:=h j (k -1) a y A0 A0 m hy
     have h2:=K y A0 hy;show a.hi<=r
     omega
theorem UQ{r:Int}(hx:l[i]?=some x):(l.set i {x with rc:=r}).map OY=l.map OY:=by
 apply P2;intro k;rw [E6,E6,W4];by_cases m:i=k
 · subst m
   rw [Ax rfl,Ax (C7.1 hx).1,hx];rfl
 · rw [As m]
theorem j6(w:A2)(o:List IvM)(s:List A8)(hn:o.length<=1000000)(cO:BU 4 323 w o.length (CK o) s):BS prog 186 #[w] [s] (fun r H'=>r=w/\∃(s':List A8) (l o':List IvM),o'.Perm o/\(o'.Pairwise fun a b=>a.lo<=b.lo)/\l.map OY=o'.map OY/\tJ l l.length/\BU 4 323 w l.length (CK l) s'/\H'=[s']):=by
 have p8:=mL;obtain ⟨pw,cw,rfl⟩:=cO.form;refine Se func186 ntmps186 [0] ?_;intro u R;refine A3<|AH Y<|AK Y<|Zc [_,_] Y call265 Y V (gF _ o s hn cO) ?_;rintro _ _ ⟨_,⟨rfl,s1,o1,bn,l5,kv,rfl⟩,rfl⟩;have j5:=bn.length_eq
 refine A4<|B8 Y<|Zv (AR cL Y)<|Zm Y<|A4<|AQ<|Zb [8,0,7] ?_;refine Aw (e0:=[(8,_)]) (fun m e H=>∃(i:Nat) (l:List IvM) (s2:List A8),m=o.length -i/\((i<=o.length/\l.length=o.length)/\l.map OY=o1.map OY/\tJ l i/\BU 4 323 (.slice pw o.length cw) l.length (CK l) s2)/\e=[(8,I4 (i:Int))]/\H=[s2]) (by exact ⟨0,o1,s1,V,⟨⟨CM _,j5⟩,V,fun j k x y _ h=>absurd h (iS k),kv⟩,V,V⟩) Wp ?_;rintro _ _ _ ⟨i,l,s2,rfl,⟨⟨o8,ic⟩,W,K,cu⟩,rfl,rfl⟩;refine A3<|Zv (Ap Y Y)<|A4<|Zq<|Ak Y (fun j3=>?_) (fun j3=>?_);·
  refine B3<|Zq<|AQ<|AK Y<|AH Y<|Zq ?_;rcases cu with⟨l9,⟨ek,h0,rfl⟩|⟨g,cap,cur,z,ek,rfl,o9,Z,af,d9,ax⟩⟩
  · omega
  injection ek with e1 e2 e3
  subst e1 e3;obtain ⟨x,hx⟩:∃x,l[i]?=some x:=⟨_,BT A0⟩;have gq:=x8 d9 hx
  refine Zg<|Zm Y<|Zm Y<|Zm Y<|Zm Y<|BX (AZ cL RM Y Y A0)<|Zv (Ar (off:=1) al rfl rfl A6 Y)<|Zl AE Y (hv:=by exact (by rw [Dd];exact gq.1)) ?_;refine BX (AZ cL RM Y Y A0)<|Zv (Ar (off:=2) al V rfl A6 Y)<|Xe (Zs A6 Y Y V (hi:=by omega) (hz:=by exact ax)) ?_;refine Z0<|Zn [0,3,7,8] ?_;refine Zx<|Zq ?_;obtain ⟨U,G⟩:∃U,U=cur.setIfInBounds (0+i*4+2) (I4 x.hi):=⟨_,rfl⟩;rw [<-G];have B:U.toList.take (l.length*4)=CK (l.set i {x with rc:=x.hi}):=by rw [G,Dd];exact wy d9 hx x.hi
  have I:U.size=cw*4:=by rw [G,V2];exact af
  have J:Iq z U.size:=by rw [I,<-af];exact ax
  have X:(l.set i {x with rc:=x.hi})[i]?=some {x with rc:=x.hi}:=by rw [W4,Ax rfl,Ax A0]
  have gy:=x8 B X;refine Zg<|Zm Y<|Zv (DX (n:=0) Y Y)<|A4<|Ak Y (fun gm=>?_) (fun gm=>?_);·
   obtain ⟨y,hy⟩:∃y,l[i -1]?=some y:=⟨_,BT A0⟩;have l8:(l.set i {x with rc:=x.hi})[i -1]?=some y:=by rw [W4,As A0];exact hy
   have gQ:=x8 B l8;refine Ay (n:=17) (0::0::0::0::12::28::60::0::0::256::896::1920::3968::8188::16383::32767::65535::[]) 65536 AD AD rfl<|A1 0 rfl (AP Y)<|A1 1 rfl (AP Y)<|A1 2 rfl (AP Y)<|A1 3 rfl (AP Y)<|A1 4 rfl (AZ cL RM Y Y A0)<|A1 5 rfl (Ar (off:=2) al rfl rfl A6 Y)<|Bm 6 rfl AE Y (hv:=by exact (by rw [Dd];exact gy.2)) ?_;refine A1 7 V (AP Y)<|A1 8 V (AP Y) ?_
   (refine F5 (D':=1023) 9 (CQ (n:=1) Y Y ?_ ?_) ?_;(focus (omega));(focus (omega)))
   refine A1 10 rfl (AZ cL RM Y Y A0)<|A1 11 rfl (Ar (off:=2) al rfl rfl A6 Y)<|Bm 12 rfl AE Y (hv:=by exact (by rw [Dd];exact gQ.2)) ?_;refine A1 13 V (Qs Y Y)<|A1 14 V (AZ cL RM Y Y A0)<|A1 15 V (Ar (off:=2) al V rfl A6 Y)<|Zz (l:=[16])<|BW [false,false] [] V rfl (Zs A6 Y Y V (hi:=by omega) (hz:=by exact J)) ?_ (fun _ _ h=>h.elim) Aj;rintro _ _ ⟨rfl,rfl⟩;refine C3<|Aq<|Zn [0,7,8] ?_;refine AA<|Zx<|Dg Y Y Y<|DG (e:=[(8,_)]) (h:=by exact ⟨i+1,(l.set i {x with rc:=x.hi}).set i {x with rc:=max x.hi y.rc},[(g,.cells (U.setIfInBounds (0+i*4+2) (I4 (max x.hi y.rc))) 323 z)],rfl,⟨⟨by omega,by simp;omega⟩,by rw [UQ X,UQ hx];exact W,by rw [List.set_set];exact WI K hx A0 (fun y2 _ O=>by rw [hy]at O;injection O with O;rw [<-O];omega),lM Kd (by rw [Dd,e2];exact wy B X _) A0 Z (by rw [V2];exact I) (by rw [V2];exact J)⟩,rfl,rfl⟩)
  refine AC<|AA<|Zx<|Dg Y Y Y<|DG (e:=[(8,_)]) (h:=by exact ⟨i+1,l.set i {x with rc:=x.hi},[(g,.cells U 323 z)],rfl,⟨⟨by omega,by simp;omega⟩,by rw [UQ hx];exact W,WI K hx A0 (fun y2 h0=>absurd h0 A0),lM Kd (by rw [e2];exact B) A0 Z I J⟩,rfl,rfl⟩)
 obtain rfl:i=o.length:=by omega
 refine BA<|Zt<|Zt<|AX<|Zx<|AK Y<|An Y<|AO V results186 Y (by exact ⟨V,s2,l,o1,bn,l5,W,ic▸K,cu,V⟩)
theorem yh(v:Int):∀{l:List IvM},(l.Pairwise fun a b=>a.lo<=b.lo)->l.takeWhile (fun x=>decide (x.lo<=v))=l.filter fun x=>decide (x.lo<=v)
 |[],_=>rfl
 |a::l,h=>by
  obtain ⟨B,h2⟩:=SD.1 h;by_cases m:a.lo<=v;· rw [uk (by simpa using m),List.filter_cons_of_pos (by simpa using m),yh v h2]
  · rw [uq (by simpa using m),kl (by simpa using m)]
    exact (n5.2 fun b G=>by have:=B b G;simp;omega).symm
theorem Vx(v:Int):∀{q:List IvM},(q.Pairwise fun a b=>b.hi<=a.rc)->(∀a∈q,a.hi<=a.rc)->(q.takeWhile fun x=>decide (v<=x.rc)).filter (fun x=>decide (v<=x.hi))=q.filter fun x=>decide (v<=x.hi)
 |[],_,_=>rfl
 |a::q,h,hs=>by
  obtain ⟨G,h2⟩:=SD.1 h;by_cases B:v<=a.rc;· rw [uk (by simpa using B),dr,dr,Vx v h2 fun b m=>hs b (GB _ m)]
  · rw [uq (by simpa using B)]
    refine (n5.2 fun b m=>?_).symm;rcases DS.1 m with rfl|m
    · have:=hs b B7;simp;omega
    · have:=G b m;simp;omega
theorem rY{v:Int}(W:l.Pairwise fun a b=>a.lo<=b.lo)(J:tJ l l.length)(i:Int):i∈J8 v l↔∃x∈l,x.lo<=v/\v<=x.hi/\x.id=i:=by
 have U:l.Pairwise fun a b=>a.hi<=b.rc:=ft.2 fun j k m I O=>J j k _ _ A0 I (BT m) (BT I);have K:∀a∈l,a.hi<=a.rc:=fun a G=>by
  obtain ⟨j,m,rfl⟩:=List.mem_iff_getElem.1 G;exact J j j _ _ (D0 _) m (BT m) (BT m)
 unfold J8;rw [yh v W,Vx v (List.pairwise_reverse.2 (U.sublist cC)) fun a G=>K a (GF.1 (gx.1 G)).1];simp only [CI,GF,gx,HA];constructor;· rintro ⟨x,⟨⟨hx,B⟩,h2⟩,rfl⟩;exact ⟨x,hx,B,h2,rfl⟩
 · rintro ⟨x,hx,B,h2,rfl⟩;exact ⟨x,⟨⟨hx,B⟩,h2⟩,rfl⟩
variable{o:List IvM}
theorem bO(m:l.map OY=o.map OY){a b i:Int}:(∃x∈l,x.lo=a/\x.hi=b/\x.id=i)↔∃x∈o,x.lo=a/\x.hi=b/\x.id=i:=by
 have h:∀{l:List IvM},(∃x∈l,x.lo=a/\x.hi=b/\x.id=i)↔(a,b,i)∈l.map OY:=fun{l}=>by
  simp only [CI,OY,lj]
 rw [h,h,m]
theorem bP(m:l.map OY=o.map OY)(B:o.Pairwise fun a b=>a.lo<=b.lo):l.Pairwise fun a b=>a.lo<=b.lo:=by
 have h:∀{l:List IvM},(l.Pairwise fun a b=>a.lo<=b.lo)↔(l.map OY).Pairwise fun a b=>a.1<=b.1:=fun{l}=>by
  rw [X1];rfl
 rw [h,m];exact h.1 B
def Rx(x:Int×QM):IvM:=⟨x.2.lo,x.2.hi,0,x.1⟩
def plQ(x:Int×QM):Int×Int:=(x.2.tb,x.2.cl)
def Ep(vs:List (Int×QM))(k:Int×Int):List IvM:=(vs.filter fun x=>decide (plQ x=k)).map Rx
def Fa(vs:List (Int×QM))(t:Int):List Int:=(vs.filter fun x=>decide (x.2.kd=7/\x.2.ot=t)).map (·.1)
theorem UT(vs:List (Int×QM))(x:Int×QM)(k:Int×Int):Ep (vs++[x]) k=if k=plQ x then Ep vs (plQ x)++[Rx x]else Ep vs k:=by
 unfold Ep;rw [L7,CN];by_cases h:k=plQ x;· subst h;simp
 · rw [As h,kl (by simpa using fun e=>h e.symm)];simp
theorem OZ(vs:List (Int×QM))(x:Int×QM)(t:Int):Fa (vs++[x]) t=if x.2.kd=7/\t=x.2.ot then Fa vs x.2.ot++[x.1]else Fa vs t:=by
 unfold Fa;rw [L7,CN];by_cases h:x.2.kd=7/\t=x.2.ot;· obtain ⟨m,rfl⟩:=h;simp [m]
 · rw [As h,kl (by simpa using fun e1 e2=>h ⟨e1,e2.symm⟩)];simp
theorem bY(a b:List IvM):CK (a++b)=CK a++CK b:=by unfold CK;rw [On]
abbrev zD(vs:List (Int×QM))(lm:List ((Int×Int)×A2))(M:List A8):Prop:=VE 4 323 lm (fun k=>(Ep vs k).length) (fun k=>CK (Ep vs k)) M
abbrev fD(vs:List (Int×QM))(lm:List (Int×A2))(M:List A8):Prop:=VE 1 3 lm (fun t=>(Fa vs t).length) (fun t=>(Fa vs t).map fun i=>Value.int .i64 i) M
variable{vs:List (Int×QM)}{M:List A8}
theorem rA{lm:List ((Int×Int)×A2)}(W:(lm.map (·.1)).Nodup)(h:zD vs lm M)(x:Int×QM):
 ∃s B,BU 4 323 ((EM (plQ x) lm).getD (.slice none 0 0)) (Ep vs (plQ x)).length (CK (Ep vs (plQ x))) s/\M.Perm (s++B)/\∀(I:A2) (G:List A8) (m:List ((Int×Int)×A2)),(m.map (·.1)).Nodup->(∀p,p∈m↔p=(plQ x,I)\/(p∈lm/\p.1≠plQ x))->
  BU 4 323 I (Ep vs (plQ x)++[Rx x]).length (CK (Ep vs (plQ x)++[Rx x])) G->zD (vs++[x]) m (G++B):=by
 obtain ⟨s,B,K,h2,O⟩:=R5 W h (plQ x);refine ⟨s,B,K,h2,fun I G m J X Z=>?_⟩;have U:=O I G _ _ m J X Z
 have e1:(fun k=>(Ep (vs++[x]) k).length)=fun k=>if k=plQ x then(Ep vs (plQ x)++[Rx x]).length else(Ep vs k).length:=funext fun k=>by
  rw [UT];split<;>rfl
 have e2:(fun k=>CK (Ep (vs++[x]) k))=fun k=>if k=plQ x then CK (Ep vs (plQ x)++[Rx x])else CK (Ep vs k):=funext fun k=>by
  rw [UT];split<;>rfl
 unfold zD;rw [e1,e2];exact U
variable{lm:List (Int×A2)}
theorem qm(X:(lm.map (·.1)).Nodup)(h:fD vs lm M)(x:Int×QM)(K:x.2.kd=7):
 ∃s B,BU 1 3 ((EM x.2.ot lm).getD (.slice none 0 0)) (Fa vs x.2.ot).length ((Fa vs x.2.ot).map fun i=>Value.int .i64 i) s/\M.Perm (s++B)/\∀(I:A2) (G:List A8) (m:List (Int×A2)),(m.map (·.1)).Nodup->(∀p,p∈m↔p=(x.2.ot,I)\/(p∈lm/\p.1≠x.2.ot))->
  BU 1 3 I (Fa vs x.2.ot++[x.1]).length ((Fa vs x.2.ot++[x.1]).map fun i=>Value.int .i64 i) G->fD (vs++[x]) m (G++B):=by
 obtain ⟨s,B,O,h2,U⟩:=R5 X h x.2.ot;refine ⟨s,B,O,h2,fun I G m J Z hr=>?_⟩;have W:=U I G _ _ m J Z hr
 have e1:(fun k=>(Fa (vs++[x]) k).length)=fun k=>if k=x.2.ot then(Fa vs x.2.ot++[x.1]).length else(Fa vs k).length:=funext fun k=>by
  rw [OZ];simp only [K,db];split<;>rfl
 have e2:(fun k=>(Fa (vs++[x]) k).map fun i=>Value.int .i64 i)=fun k=>if k=x.2.ot then(Fa vs x.2.ot++[x.1]).map fun i=>Value.int .i64 i else(Fa vs k).map fun i=>Value.int .i64 i:=funext fun k=>by
  rw [OZ];simp only [K,db];split<;>rfl
 unfold fD;rw [e1,e2];exact W
theorem qy(h:fD vs lm M)(x:Int×QM)(m:x.2.kd≠7):fD (vs++[x]) lm M:=by
 have e:Fa (vs++[x])=Fa vs:=funext fun t=>by rw [OZ,As (fun h=>m h.1)]
 unfold fD;rw [e];exact h
theorem nZ(q:QM)(B:BH q):BS prog 176 #[.agg q.BM5] [] (fun r H'=>r= .tuple #[I4 q.tb,I4 q.cl,I4 q.lo,I4 q.hi]/\H'=[]):=by
 refine Se func176 ntmps176 [0] ?_;intro u R;refine A3<|Ze (Bx #[_,_,_,_,_,_,_])<|AF fun G=>Za Y<|Za Y<|Za Y<|CT Y<|A3<|Zo Wh (A9 (cs:=q.BM5) Fm D4 Y Wn (Az V))<|Xr [_] Y call63 Y V (Js q)<|Zv (CG Y)<|A4<|AY Y (fun m=>?_) (fun m=>?_);·
  exfalso;simp [B]at m
 refine B3<|Zq<|Ay (n:=12) (0::1::0::4::0::16::0::64::3::271::831::2047::[]) 0 AD AD V<|A1 0 V (AB (off:=1) DB V rfl A6 Y)<|Bm 1 V AE Y<|A1 2 V (AB (off:=2) DB V rfl A6 Y)<|Bm 3 V AE Y<|A1 4 V (AB (off:=3) DB V rfl A6 Y)<|Bm 5 V AE Y<|A1 6 V (AB (off:=4) DB V rfl A6 Y)<|Bm 7 V AE Y<|A1 8 V (BC Y)<|A1 9 V (BC Y)<|A1 10 V (BC Y)<|A1 11 V (BC Y)<|Aq<|Zn [2,3,4,5] ?_;refine Zx<|AL<|lW V results176 Y Y Y Y (by exact ⟨V,V⟩)
def fB(lm:List (Int×A2))(js:List Nat)(vs:List (Int×QM)):Prop:=vs.length=js.length/\∀x,x∈vs↔∃j∈js,lm[j]?=some (x.1,(.agg #[I4 x.2.kd,I4 x.2.tb,I4 x.2.cl,I4 x.2.lo,I4 x.2.hi,I4 x.2.bq,I4 x.2.ot]:A2))
variable{js:List Nat}{j:Nat}
theorem gI(h:fB lm js vs){x:Int×QM}(m:lm[j]?=some (x.1,(.agg #[I4 x.2.kd,I4 x.2.tb,I4 x.2.cl,I4 x.2.lo,I4 x.2.hi,I4 x.2.bq,I4 x.2.ot]:A2))):fB lm (js++[j]) (vs++[x]):=by
 refine ⟨by rw [C0,C0,h.1];rfl,fun y=>?_⟩;rw [CD,h.2];constructor
 · rintro (⟨i,hi,hy⟩|hy)
   · exact ⟨i,G1 _ hi,hy⟩
   · rw [CH.1 hy];exact ⟨j,by simp,m⟩
 · rintro ⟨i,hi,hy⟩
   rcases CD.1 hi with hi|hi
   · exact .inl ⟨i,hi,hy⟩
   · rw [CH.1 hi,m]at hy
     injection hy with hy
     refine .inr (CH.2 ?_);obtain ⟨a,q⟩:=x;obtain ⟨b,r⟩:=y;obtain ⟨B,q2,G,I,J,K,O⟩:=q;obtain ⟨U,W,X,Z,r5,r6,r7⟩:=r;simp at hy;simp [hy]
theorem UU(vs:List (Int×QM))(k:Int×Int):(Ep vs k).length<=vs.length:=by unfold Ep;rw [Bk];exact Tl _ _
def Rs(o l:List IvM):Prop:=∃o':List IvM,o'.Perm o/\(o'.Pairwise fun a b=>a.lo<=b.lo)/\l.map OY=o'.map OY/\tJ l l.length
variable{lmA:List ((Int×Int)×A2)}{pn:(Int×Int)×A2}
theorem pJ(G:(lmA.map (·.1)).Nodup)(m:lmA[j]?=some pn)(p:(Int×Int)×A2):p∈lmA↔p=(pn.1,pn.2)\/(p∈lmA/\p.1≠pn.1):=by
 constructor
 · intro B
   by_cases h:p.1=pn.1
   · obtain ⟨i,hi⟩:=HU B
     obtain rfl:=Lf G hi m h;rw [m]at hi;injection hi with hi;exact .inl hi.symm
   · exact .inr ⟨B,h⟩
 · rintro (rfl|⟨h,_⟩)
   · exact Ek m
   · exact h
variable{ks:List Nat}
theorem gH{I G:List ((Int×Int)×A2)}(K:(lmA.map (·.1)).Nodup)(B:lmA[j]?=some pn)(J:¬j∈ks)(W:∀p,p∈I↔∃k∈ks,lmA[k]?=some p)(U:∀p,p∈G↔p=(pn.1,pn.2)\/(p∈I/\p.1≠pn.1))(p:(Int×Int)×A2):p∈G↔∃k∈ks++[j],lmA[k]?=some p:=by
 rw [U,W];constructor
 · rintro (rfl|⟨⟨k,K,m⟩,hne⟩)
   · exact ⟨j,by simp,B⟩
   · exact ⟨k,G1 _ K,m⟩
 · rintro ⟨k,O,m⟩
   rcases CD.1 O with hk1|hk1
   · refine .inr ⟨⟨k,hk1,m⟩,fun X=>J ?_⟩
     obtain rfl:=Lf K m B X;exact hk1
   · rw [CH.1 hk1,B]at m;injection m with m;exact .inl m.symm
variable{g:Int×Int->List IvM}
theorem jr(O:(lmA.map (·.1)).Nodup)(B:lmA[j]?=some pn)(G:¬j∈ks){f:Int×Int->List IvM}{l2:List IvM}(J:∀i p,lmA[i]?=some p->if i∈ks then Rs (f p.1) (g p.1)else g p.1=f p.1)(h2:Rs (g pn.1) l2):
 ∀i p,lmA[i]?=some p->if i∈ks++[j]then Rs (f p.1) ((fun k=>if k=pn.1 then l2 else g k) p.1)else(fun k=>if k=pn.1 then l2 else g k) p.1=f p.1:=by
 intro i p hi;have h:=J i p hi
 by_cases m:i=j
 · subst m
   rw [B]at hi;injection hi with hi;subst hi
   rw [As G]at h;rw [Ax B7];simp only [KK];rw [<-h];exact h2
 · have I:p.1≠pn.1:=fun K=>m (Lf O hi B K)
   simp only [As I,CD,CH,m,PF];exact h
theorem wY{lm:List ((Int×Int)×A2)}{l2:List IvM}{m:Int×Int}(h:VE 4 323 lm (fun x=>if x=m then l2.length else(g x).length) (fun x=>if x=m then CK l2 else CK (g x)) M):VE 4 323 lm (fun k=>((fun k=>if k=m then l2 else g k) k).length) (fun k=>CK ((fun k=>if k=m then l2 else g k) k)) M:=by
 have e1:(fun k=>((fun k=>if k=m then l2 else g k) k).length)=fun x=>if x=m then l2.length else(g x).length:=funext fun k=>by
  show(if k=m then l2 else g k).length=_;split<;>rfl
 have e2:(fun k=>CK ((fun k=>if k=m then l2 else g k) k))=fun x=>if x=m then CK l2 else CK (g x):=funext fun k=>by
  show CK (if k=m then l2 else g k)=_;split<;>rfl
 rw [e1,e2];exact h
theorem dD(vs:List (Int×QM))(t:Int):(Fa vs t).length<=vs.length:=by unfold Fa;rw [Bk];exact Tl _ _
def Ir(c:Chg)(i:Nat):List AV:=(if 1<=i/\c.had=true then [⟨c.t,c.k,c.o⟩]else [])++(if 2<=i/\c.has=true then [⟨c.t,c.k,c.n⟩]else [])
def FQ(c:Chg):List AV:=Ir c 2
theorem A23(c:Chg)(i:Nat)(h:i<2):∃(fi:Nat) (rv:AV) (vb:Bool),(#[.func (.func 264) #[] #[],.func (.func 103) #[] #[]]:AN)[i]?=some (.func (.func fi) #[] #[])/\(∀(args:AN) (w:A5),(callFunc fi args).run prog w= .ok (.enter fi args) w)/\
 Au prog fi #[.agg c.BM3] [] (.tuple #[.agg rv.BM4,.bool vb])/\(vb=true->Ir c (i+1)=Ir c i++[rv]/\∃m,FQ c=Ir c i++rv::m)/\(vb=false->Ir c (i+1)=Ir c i):=by
 rcases (by omega:i=0\/i=1)with rfl|rfl
 · refine ⟨_,_,c.had,rfl,call264,WH c,fun hv=>?_,fun hv=>?_⟩
   · unfold FQ Ir EW;simp [hv]
   · unfold Ir;simp [hv]
 · refine ⟨_,_,c.has,rfl,call103,PY c,fun hv=>?_,fun hv=>?_⟩
   · unfold FQ Ir EW;simp [hv]
   · unfold Ir;simp [hv]
theorem kC(c:Chg):BS prog 188 #[.agg c.BM3] [] (fun r H'=>∃b,r= .func (.func 267) #[] #[I5 b]/\H'=[[(b,.cells c.BM3 73 (0,0))]]):=by
 refine Se func188 ntmps188 [0] ?_;intro u R;refine A3<|Ze (Fu Y (cs:=c.BM3) AD)<|AF fun b=>AH Y<|A3<|Zv (Be (vs:=[]) (us:=[_]) Y Y)<|An Y<|AO V results188 Y (by exact ⟨_,V,V⟩)
theorem kD(c:Chg)(b:Nat):Eg prog 267 #[I5 b] [[(b,.cells c.BM3 73 (0,0))]] (fun _=>True) (fun x:AV=>#[.agg x.BM4]) (FQ c):=by
 intro l J hA hy s I;refine Se func267 ntmps267 [0,1] ?_;intro u R;refine A3<|Ze (Ah (vs:=[_,_]) (cs:=[_,_]) underlying390 sizeOf172 zeroValue172 Y V rfl V rfl V)<|AF fun bf=>Zv (AR underlying390 Y)<|Zm Y<|A4<|AQ<|Zb [9,0,1,7,8] ?_;refine Aw (e0:=[(9,_)]) (fun m e H=>∃(i:Nat) (s:List A8),m=2 -i/\(i<=2/\J (Ir c i) s)/\e=[(9,I4 (i:Int))]/\H=[s]) (by exact ⟨0,s,V,⟨by decide,I⟩,V,V⟩) Wp ?_;rintro _ _ _ ⟨i,s,rfl,⟨hi,I⟩,rfl,rfl⟩;refine A3<|Zv (Ap Y Y)<|A4<|Zq<|Ak Y (fun Z=>?_) (fun Z=>?_);·
  obtain ⟨fi,rv,vb,W,X,af,K,O⟩:=A23 c i A0;refine B3<|Zq<|AQ<|A3<|BX (Bd underlying390 sizeOf172 Y Y A0)<|Zl isAgg172 Y (hv:=by exact W) ?_;refine AH Y<|AK Y<|Zo Wh (Pa #[_,_,_,_,_,_,_,_,_,_] HD Cl Y) ?_;refine Xr [_] Y (X) Y V (af) ?_;refine Zm Y<|Zd Y V<|Zd Y V<|Ze (Al Ft #[_,_,_,_,_])<|AF fun br=>Xe (Xw B6 _) ?_;refine B2 Y<|Zn [0,1,5,6,7,8,9] ?_;refine Zx<|AK Y<|Zm Y<|Ad (t:=20) Y V (fun G=>?_) (fun G=>?_);·
   obtain ⟨hu,bn,B⟩:=K G;have ax:=hy _ _ _ s B I
   refine Zf Y Y<|D6 Y Wh (Pa #[_,_,_,_,_] DM B6 Y) V rfl ?_;refine Ze (GH (vs:=[_]) Y Y (ax) Wp) ?_;rintro _ _ ⟨_,⟨s',rfl,rfl,U⟩,rfl⟩;refine Yg (Bo Y)<|C1 Y Y<|A4<|AY Y (fun hb=>by cases hb)<|fun hb=>AC<|AA<|Zx<|Dg Y Y Y<|DG (e:=[(9,_)]) (h:=by exact ⟨i+1,s',rfl,⟨by omega,by rw [hu];exact U⟩,rfl,rfl⟩)
  have hu:=O G;refine AG<|AG<|B9 Y Y<|A4<|Df Y<|AC<|AA<|Zx<|Dg Y Y Y<|DG (e:=[(9,_)]) (h:=by exact ⟨i+1,s,rfl,⟨by omega,by rw [hu];exact I⟩,rfl,rfl⟩)
 obtain rfl:i=2:=by omega
 refine BA<|Zt<|Zt<|AX<|DC V results267 (by exact ⟨s,V,I⟩)
theorem Tx:GD prog 320 K2 KD:=GD.ofLaw (deep_law (m:=3) (by decide) (by kernel_rfl) (by kernel_rfl) (by kernel_rfl)) (by
 rintro ⟨a,b⟩ ⟨I,J⟩;have G:Tryz.prog.types.size+1=(Tryz.prog.types.size -1)+1+1:=by
  have:0<Tryz.prog.types.size:=IH AD;omega
 have hc:Tryz.prog.cellsOf 3=1:=by kernel_rfl
 have B:Tryz.prog.cellsOf 320=2:=by kernel_rfl
 have U:Tryz.prog.keyType 320=true:=by kernel_rfl
 have O:(K2 (a,b)).formed prog 320=true:=by
  unfold Value.formed K2;rw [lz];simp [B]
 unfold keyOf;rw [lz];simp only [U,O,Bool.and_self,KK];obtain ⟨d,K⟩:∃d,Tryz.prog.types.size+1=d+1+1:=⟨_,G⟩;rw [K];unfold Program.keyLits;rw [lz];have W:=Pv prog d a D3 I
 have X:=Pv prog d b D3 J;simp [K2,Value.cells,hc,B,W,X]) zB
def zC(M:List A8)(v:A2)(l:List Int):Prop:=∃p cap,v= .slice p l.length cap/\(l.length<=maxLen/\l.length<=cap)/\∀(i:Nat) (x:Int),l[i]?=some x->∃g off cur T zz,p=some ⟨g,off,none⟩/\(g,Obj.cells cur T zz)∈M/\cur[off+i]?=some (I4 x)
variable{v:A2}
theorem zC.mono{m:List A8}{l:List Int}(h:zC M v l)(K:∀c∈M,c∈m):zC m v l:=by
 obtain ⟨p,cap,e,J,I⟩:=h;refine ⟨p,cap,e,J,fun i x hx=>?_⟩;obtain ⟨g,off,cur,T,zz,B,h2,G⟩:=I i x hx;exact ⟨g,off,cur,T,zz,B,K _ h2,G⟩
structure QH(sc:Int->Int->List IvM)(jn:Int->List Int)(lp:Nat)(ML:List A8):Prop where
 ex:∃ms ess cks lms mj esj ckj lmj,(lp,Obj.cells #[.map (some ms),.map (some mj)] 318 (0,0))∈ML/\(ms,Obj.map ess cks)∈ML/\Co K2 ess cks lms/\(∀p∈lms,KD p.1)/\(mj,Obj.map esj ckj)∈ML/\Co (fun n:Int=>Value.int .i64 n) esj ckj lmj/\
  (∀a b,VC ML ((EM (a,b) lms).getD (.slice none 0 0)) (sc a b))/\(∀t,zC ML ((EM t lmj).getD (.slice none 0 0)) (jn t))
 asc:∀a b,(sc a b).Pairwise fun x y=>x.lo<=y.lo
 len:∀a b,(sc a b).length<=1000000
def Ie(sc:Int->Int->List IvM)(t:Int)(r:AV)(n:Nat):List Int:=(List.range n).flatMap fun col=>J8 (Dq r col) (sc t (col:Int))
def O3(sc:Int->Int->List IvM)(jn:Int->List Int)(c:Chg):List Int:=((FQ c).flatMap fun r=>Ie sc c.t r 4)++jn c.t
theorem TL(sc:Int->Int->List IvM)(t:Int)(r:AV)(n:Nat):Ie sc t r (n+1)=Ie sc t r n++J8 (Dq r n) (sc t (n:Int)):=by
 unfold Ie;rw [i7,On];simp
theorem A19(sc:Int->Int->List IvM)(t:Int)(r:AV)(h:n<4):∃m,Ie sc t r 4=Ie sc t r n++J8 (Dq r n) (sc t (n:Int))++m:=by
 rcases (by omega:n=0\/n=1\/n=2\/n=3)with rfl|rfl|rfl|rfl<;>simp only [TL,DH]<;>first|exact ⟨_,rfl⟩|(refine ⟨[],?_⟩;simp)
theorem jC{sc:Int->Int->List IvM}{jn:Int->List Int}{c:Chg}{pre B:List AV}{x:AV}(h:FQ c=pre++x::B)(hn:n<4){G m:List Int}{id:Int}(h2:J8 (Dq x n) (sc c.t (n:Int))=G++id::m):
 ∃I,O3 sc jn c=((pre.flatMap fun r=>Ie sc c.t r 4)++Ie sc c.t x n++G)++id::I:=by
 obtain ⟨K,J⟩:=A19 sc c.t x hn;unfold O3;rw [h,On,Hv,J,h2];exact ⟨m++K++(B.flatMap fun r=>Ie sc c.t r 4)++jn c.t,by simp⟩
theorem Yd(v:A2)(x:Int)(B:v.oneCell'=true):BS prog 189 #[v,I4 x] [] (fun r H'=>∃bl m,r= .func (.func 268) #[] #[I5 bl,I5 m]/\H'=[[(bl,.cells #[v] 324 (0,0))],[(m,.cells #[I4 x] 3 (0,0))]]):=by
 refine Se func189 ntmps189 [0,1] ?_;intro u R;refine A3<|Ze (Fu Y (cs:=#[v]) (by cases v<;>first|rfl|simp [Value.oneCell']at B))<|AF fun bl=>Ze (Bx #[_])<|AF fun m=>AH Y<|A3<|Zv (Be (vs:=[]) (us:=[_,_]) Y Y)<|An Y<|AO V results189 Y (by exact ⟨bl,m,V,V⟩)
theorem ow(lp:Nat)(c:Chg):BS prog 112 #[I5 lp,.agg c.BM3] [] (fun r H'=>∃bl m,r= .func (.func 187) #[] #[I5 m,I5 bl]/\H'=[[(bl,.cells #[I5 lp] 198 (0,0))],[(m,.cells c.BM3 73 (0,0))]]):=by
 refine Se func112 ntmps112 [0,1] ?_;intro u R;refine A3<|Ze (Bx #[_])<|AF fun bl=>Ze (Fu Y (cs:=c.BM3) AD)<|AF fun m=>AH Y<|A3<|Zv (Be (vs:=[]) (us:=[_,_]) Y Y)<|An Y<|AO V results112 Y (by exact ⟨bl,m,V,V⟩)
theorem oz{sc:Int->Int->List IvM}{jn:Int->List Int}{lp:Nat}{ML:List A8}(hL:QH sc jn lp ML)(c:Chg)(o9:∀r∈FQ c,∀n:Nat,n<4->-1000000000000<=Dq r n/\Dq r n<=1000000000000)(p8:-9223372036854775808<=c.t/\c.t<=9223372036854775807)(ve:(jn c.t).length<=1000000)(bc bl:Nat):Eg prog 187 #[I5 bc,I5 bl] [[(bc,.cells c.BM3 73 (0,0))],[(bl,.cells #[I5 lp] 198 (0,0))]] (fun s=>∀x∈ML,x∈s) (fun i:Int=>#[I4 i]) (O3 sc jn c):=by
 have vw:=mL;obtain ⟨ms,sO,sJ,wz,mj,sM,sw,wo,ax,ql,gm,pz,qj,ek,af,pg⟩:=hL.ex;intro ly J hA hy s B;refine DF func187 V ntmps187 V ?_;intro u R;refine Zb [0,1,2] ?_;refine A3<|Ze (Bx #[_])<|AF fun by_=>A4<|Zq<|A3<|Zo Wh (Pa #[_,_,_,_,_,_,_,_,_,_] HD Cl Y) ?_;refine Zc [_] Y call188 Y V (kC c) ?_;rintro _ _ ⟨_,⟨br,rfl,rfl⟩,rfl⟩;refine A4<|AQ<|Zb [1,2,3,10] ?_;refine QC (H0:=_) (R:=_) (I:=(fun(pre:List AV) H=>∃s,J (pre.flatMap fun r=>Ie sc c.t r 4) s/\H=[[(bc,.cells c.BM3 73 (0,0))],[(bl,.cells #[I5 lp] 198 (0,0))],[(by_,.cells #[.func (.yield ly) #[] #[]] 101 (0,0))],s])) (E:=fun x e Hn=>∃bw,e=[(4,I5 bw),(11,.agg x.BM4)]/\Hn=[[(bw,.cells x.BM4 83 (0,0))]]) V Y call267 (kD c br) (fun _ _ _ _ _=>trivial) Y V Wp (⟨s,B,V⟩) ?ha_2 ?hbd_2 ?hk_2
 case ha_2=>
  intro _ x _ _;refine Zg<|Ze (Al Ft #[_,_,_,_,_])<|AF fun b2=>Xe (Xw B6 _) ?_;refine Z0<|LP (e:=[(4,_),(11,_)]) (Hn:=[[(_,_)]]) ?_;exact ⟨_,V,V⟩
 case hbd_2=>
  intro l pre x kv u e9 l5 H1 R1 r9 K hI U;obtain ⟨bw,rfl,rfl⟩:=U;obtain ⟨s,B,rfl⟩:=hI;have j3:=K
  refine AQ<|AK Y<|A4<|AQ<|Zb [12,1,2,3,4] ?_;refine Aw (e0:=[(12,_)]) (fun m e H=>∃(n:Nat) (s:List A8),m=4 -n/\(n<=4/\J ((pre.flatMap fun r=>Ie sc c.t r 4)++Ie sc c.t x n) s)/\e=[(12,I4 (n:Int))]/\H=[s]) (by exact ⟨0,s,rfl,⟨by decide,by rw [show Ie sc c.t x 0=[] from rfl,E7];exact B⟩,rfl,rfl⟩) Wp ?_;rintro _ _ _ ⟨n,s,rfl,⟨vz,B⟩,rfl,rfl⟩;refine A3<|Zv (Ap (n:=4) Y Y)<|A4<|Zq<|Ak Y (fun qa=>?_) (fun qa=>?_);·
   have ic:=hA _ s B;have cu:=ic _ ax
   have gq:=ic _ ql;obtain ⟨pv,cv,gy,_,_⟩:=af c.t (n:Int);have qz:x∈FQ c:=by rw [K];simp
   have qx:=o9 x qz n A0;have pq:KD (c.t,(n:Int)):=⟨Vq p8,Vq A0⟩
   have cO:n<4:=by omega
   refine B3<|Zq<|AQ<|AK Y<|CT Y<|Ay (n:=13) (0::1::3::7::0::16::0::112::255::0::0::1536::4095::[]) 6144 AD AD V<|Bm 0 V isAgg198 Y ?_;refine A1 1 V (Ao Y V)<|A1 2 V (AB (off:=0) iz V rfl sizeOf315 Y)<|Cn (D':=15) 3 V rfl V (FN Wo (cu)) (BK isAgg315 Y B1) ?_;refine A1 4 V (AB (off:=0) CC V rfl A6 Y)<|Bm 5 V AE Y ?_;refine A1 6 V (AP Y)<|A1 7 V (BN (vs:=[(0,_),(1,_)]) (cs:=#[_,_]) Y (Aa (pl:=#[(0,1),(1,1)]) ph lz (fun _=>by kernel_rfl) V))<|Cn (D':=511) 8 V rfl V (FN Wo (gq)) (Du Tx underlying315 zeroValue324 gm pz (pq) (gy) Y Y) ?_;refine G3 9 V Wh (A9 (cs:=#[_,_,_,_,_]) DM B6 Y B5 B1) ?_;refine A1 10 V (AP Y)<|Zz (l:=[11])<|BW [false,true,true,true,true] [(8,(_,_)),(5,(_,_)),(3,(_,_)),(0,(_,_))] V rfl (Zu [_,_] Y Up Y V (PX x n A0)) ?_ (fun _ _ h=>h.elim) Aj;rintro _ _ ⟨rfl,rfl⟩;refine ⟨FP (by simp [*]) (Zk (FP (by simp [*]) (Zk (Ab)))),?_⟩;refine Zz (l:=[12])<|BW [false,false,false,false] [] V rfl (Zw [_,_] Y call189 Y V (Yd (.slice pv (sc c.t (n:Int)).length cv) (Dq x n) V)) ?_ Bv Aj;rintro _ _ ⟨_,⟨l8,l9,rfl,rfl⟩,rfl⟩;refine C3<|Aq<|Zn [1,2,3,4,12,27] ?_;refine Zx<|AQ<|Zb [1,2,3,4,12,27] ?_;refine kQ (H0:=_) (R:=_) (I:=(fun(O:List Int) H=>∃s,J ((pre.flatMap fun r=>Ie sc c.t r 4)++Ie sc c.t x n++O) s/\H=[[(by_,.cells #[.func (.yield ly) #[] #[]] 101 (0,0))],s])) (E:=fun x e Hn=>e=[(6,I4 x),(28,I4 x)]/\Hn=[]) rfl Wh Y call268 (Ye (gy▸af c.t (n:Int)) (hL.len _ _) (hL.asc _ _) (Dq x n) qx l8 l9) (by rintro O _ c9 ⟨s,h1,rfl⟩;intro q hq;have:=hA _ s h1 q hq;simp [this]) Y rfl Wp (⟨s,by simpa using B,rfl⟩) ?ha_7 ?hbd_7 ?hk_7
   case ha_7=>
    intro _ x _ _;refine Zg<|B2 Y<|LP (e:=[(6,_),(28,_)]) (Hn:=[]) ?_;exact ⟨V,V⟩
   case hbd_7=>
    intro l pre x kv u e9 l5 H1 R1 r9 K hI U;obtain ⟨rfl,rfl⟩:=U;obtain ⟨s,B,rfl⟩:=hI;obtain ⟨sj,qo⟩:=jC (jn:=jn) j3 cO K;have Z:=hy _ _ _ s qo B
    refine AQ<|A3<|Zl isAgg101 Y ?_;refine Zm Y<|Ze (GH (vs:=[_]) Y Y (Z) Wp) ?_;rintro _ _ ⟨_,⟨s',rfl,rfl,X⟩,rfl⟩;refine Zv (Bo Y)<|A4<|AY Y (fun hb=>by cases hb)<|fun hb=>AC<|AA<|FZ rfl (by exact ⟨s',by rw [<-DH];exact X,rfl⟩)
   intro H2 W;obtain ⟨s,B,rfl⟩:=W;refine Zn [1,2,3,4,12] ?_;refine AA<|AA<|Zx<|Dg Y Y Y<|DG (e:=[(12,_)]) (h:=by exact ⟨n+1,s,rfl,⟨by omega,by rw [TL,<-DH];exact B⟩,rfl,rfl⟩)
  obtain rfl:n=4:=by omega
  refine BA<|Zt<|Zt<|AX<|AA<|FZ rfl (by exact ⟨s,by rw [On,rm];exact B,rfl⟩)
 intro D1 H2 W;obtain ⟨s,B,rfl⟩:=W;refine Zn [1,2,3] ?_;refine AA<|Zx<|Zq ?_;have gQ:=hA _ s B
 have bn:=gQ _ ax;have d9:=gQ _ qj
 obtain ⟨pj,cj,qw,⟨vo,sQ⟩,p9⟩:=pg c.t;refine Ay (n:=9) (0::1::3::7::0::16::63::127::0::[]) 0 AD AD V<|Bm 0 V isAgg198 Y ?_;refine A1 1 V (Ao Y V)<|A1 2 V (AB (off:=1) iz V rfl sizeOf316 Y)<|Cn (D':=15) 3 V rfl V (FN Wo (bn)) (BK isAgg316 Y B1) ?_;refine A1 4 V (AB (off:=0) CC V rfl A6 Y)<|Bm 5 V AE Y ?_;refine Cn (D':=127) 6 V rfl V (FN Wo (d9)) (Du (Cf D3 (D:=fun _=>True)) underlying316 zeroValue24 ek (fun _ _=>trivial) (trivial) (qw) Y Y) ?_;refine A1 7 V (AR DP Y)<|A1 8 V (AP Y)<|Aq<|Zx<|AQ<|Zb [42,3,40,41] ?_;refine Aw (e0:=[(42,_)]) (fun m e H=>∃(k:Nat) (s:List A8),m=(jn c.t).length -k/\(k<=(jn c.t).length/\J ((FQ c).flatMap (fun r=>Ie sc c.t r 4)++(jn c.t).take k) s)/\e=[(42,I4 (k:Int))]/\H=[s]) (by exact ⟨0,s,V,⟨CM _,by simpa using B⟩,V,V⟩) Wp ?_;rintro _ _ _ ⟨k,s,rfl,⟨hk,B⟩,rfl,rfl⟩;refine A3<|Zv (Ap Y Y)<|A4<|Zq<|Ak Y (fun q9=>?_) (fun q9=>?_);·
  obtain ⟨j5,G⟩:∃x,(jn c.t)[k]?=some x:=⟨_,BT A0⟩;obtain ⟨g,off,cur,T,zz,rfl,qh,o8⟩:=p9 k j5 G;have qb:=hA _ s B _ qh
  have Z:=hy _ _ _ s (show O3 sc jn c=((FQ c).flatMap (fun r=>Ie sc c.t r 4)++(jn c.t).take k)++j5::(jn c.t).drop (k+1) by unfold O3;rw [DH,<-M9 G]) B;refine B3<|Zq<|AQ<|A3<|BX (Bg DP A6 Y Y Q2)<|Bu (HY Wo (qb)) (BK AE Y o8) rfl rfl ?_;refine AH Y<|A3<|Zl isAgg101 Y ?_;refine Zm Y<|Ze (GH (vs:=[_]) Y Y (Z) Wp) ?_;rintro _ _ ⟨_,⟨s',rfl,rfl,X⟩,rfl⟩;refine Zv (Bo Y)<|A4<|AY Y (fun hb=>by cases hb)<|fun hb=>AC<|AA<|Zx<|Dg Y Y Y<|DG (e:=[(42,_)]) (h:=by exact ⟨k+1,s',rfl,⟨by omega,by rw [Bl G,<-DH];exact X⟩,rfl,rfl⟩)
 obtain rfl:k=(jn c.t).length:=by omega
 rw [HE]at B;refine BA<|Zt<|Zt<|AX<|G7 V (uJ results187) Wo (by exact ⟨s,V,B⟩)
theorem bX(h:l[i]?=some x):((CK l).drop (i*4)).take 4=[I4 x.lo,I4 x.hi,I4 x.rc,I4 x.id]:=by
 induction l generalizing i with
 |nil=>simp at h
 |cons a l ih=>
  cases i with
  |zero=>simp at h;subst h;rfl
  |succ i=>
   have m:l[i]?=some x:=by simpa using h
   rw [show(i+1)*4=i*4+4 by omega];exact ih m
theorem bU{s:List A8}(h:BU 4 323 v l.length (CK l) s)(O:∀c∈s,c∈M):VC M v l:=by
 rcases h with⟨_,⟨rfl,h0,_⟩|⟨g,cap,cur,z,rfl,rfl,B,I,J,G,K⟩⟩
 · have m:=NX h0
   subst m;exact ⟨none,0,V,⟨CM _,D0 _⟩,fun i x hx=>by simp at hx⟩
 · refine ⟨_,cap,rfl,⟨by omega,B⟩,fun i x hx=>?_⟩
   have hi:=(C7.1 hx).1;refine ⟨g,0,cur,_,z,V,O _ (CH.2 V),by omega,?_⟩;have m:=bX hx
   rw [<-G,ia,Xs]at m;apply J0.1;rw [sL,rN,Dd,show i*4+4 -i*4=4 by omega];rw [show min 4 (l.length*4 -i*4)=4 by omega]at m;exact m
theorem dC{l:List Int}{s:List A8}(h:BU 1 3 v l.length (l.map fun i=>Value.int .i64 i) s)(O:∀c∈s,c∈M):zC M v l:=by
 rcases h with⟨_,⟨rfl,h0,_⟩|⟨g,cap,cur,z,rfl,rfl,B,I,J,G,K⟩⟩
 · have m:=NX h0
   subst m;exact ⟨none,0,V,⟨CM _,D0 _⟩,fun i x hx=>by simp at hx⟩
 · refine ⟨_,cap,rfl,⟨by omega,B⟩,fun i x hx=>?_⟩
   have hi:=(C7.1 hx).1;refine ⟨g,0,cur,_,z,V,O _ (CH.2 V),?_⟩;have m:(l.map fun i=>Value.int .i64 i)[i]?=some (I4 x):=by rw [E6,hx];rfl
   rw [<-G,HR,Ax A0]at m;simpa using m
structure Jh(qs:List (Int×QM))(sc:Int->Int->List IvM)(jn:Int->List Int):Prop where
 scan:∀a b v i,i∈J8 v (sc a b)↔∃x∈qs,x.1=i/\plQ x=(a,b)/\x.2.lo<=v/\v<=x.2.hi
 join:∀t i,i∈jn t↔∃x∈qs,x.1=i/\x.2.kd=7/\x.2.ot=t
 small:∀t,(jn t).length<=1000000
theorem xU{x y:Int×QM}(h:(x.1,(.agg #[I4 x.2.kd,I4 x.2.tb,I4 x.2.cl,I4 x.2.lo,I4 x.2.hi,I4 x.2.bq,I4 x.2.ot]:A2))=(y.1,(.agg #[I4 y.2.kd,I4 y.2.tb,I4 y.2.cl,I4 y.2.lo,I4 y.2.hi,I4 y.2.bq,I4 y.2.ot]:A2))):x=y:=by
 obtain ⟨a,q⟩:=x;obtain ⟨b,r⟩:=y;obtain ⟨m,q2,B,G,I,J,K⟩:=q;obtain ⟨O,U,W,X,Z,r6,r7⟩:=r;simp at h;simp [h]
theorem A18{qs:List (Int×QM)}{es:Array MapEntry}{ck:Nat}(m:Et qs es ck lm)(I:fB lm js vs)(J:(DU lm js).Perm lm)(x:Int×QM):x∈vs↔x∈qs:=by
 rw [I.2];constructor
 · rintro ⟨j,_,G⟩
   obtain ⟨y,hy,B⟩:=(m.mem _).1 (Ek G);rw [xU B];exact hy
 · intro hx
   have h:=J.mem_iff.2 ((m.mem _).2 ⟨x,hx,rfl⟩);obtain ⟨j,G,B⟩:=cV.1 h;exact ⟨j,G,B⟩
theorem pG{κ:Type} [DecidableEq κ]{l m:List (κ×A2)}(J:(l.map (·.1)).Nodup)(K:(m.map (·.1)).Nodup)(h:∀p,p∈l↔p∈m)(k:κ):EM k l=EM k m:=by
 by_cases G:∃v,(k,v)∈l
 · obtain ⟨v,hv⟩:=G
   rw [D8 J hv,D8 K ((h _).1 hv)]
 · rw [DY (l:=l) fun p I B=>G ⟨p.2,by rw [<-B];exact I⟩,DY (l:=m) fun p I B=>G ⟨p.2,by rw [<-B];exact (h p).2 I⟩]
theorem rP(h:Rs o l)(v i:Int):i∈J8 v l↔∃x∈o,x.lo<=v/\v<=x.hi/\x.id=i:=by
 obtain ⟨o',B,O,m,K⟩:=h;rw [rY (bP m O) K];constructor
 · rintro ⟨x,hx,I,h2,J⟩
   obtain ⟨y,hy,e1,e2,G⟩:=(bO (a:=x.lo) (b:=x.hi) (i:=x.id) m).1 ⟨x,hx,rfl,rfl,rfl⟩;exact ⟨y,B.mem_iff.1 hy,by omega,by omega,by omega⟩
 · rintro ⟨x,hx,I,h2,J⟩
   obtain ⟨y,hy,e1,e2,G⟩:=(bO (a:=x.lo) (b:=x.hi) (i:=x.id) m).2 ⟨x,B.mem_iff.2 hx,rfl,rfl,rfl⟩;exact ⟨y,hy,by omega,by omega,by omega⟩
theorem rQ(h:Rs o l):l.length=o.length:=by
 obtain ⟨o',G,J,B,I⟩:=h;have m:=congrArg List.length B
 rw [Bk,Bk]at m;rw [m];exact G.length_eq
theorem jH{qs:List (Int×QM)}{es:Array MapEntry}{ck:Nat}(l5:Et qs es ck lm)(o8:js.length<=1000000)(X:fB lm js vs)(gy:(DU lm js).Perm lm)
 {ek:List A8}(cu:(lmA.map (·.1)).Nodup)(ic:zD vs lmA ek){O:Array MapEntry}{J:Nat}{Z:List (Int×A2)}{MJ:List A8}(kv:Co (fun n:Int=>Value.int .i64 n) O J Z)(j3:fD vs Z MJ)
 {U:Array MapEntry}{K:Nat}{m:List ((Int×Int)×A2)}{MS:List A8}(cO:Co K2 U K m)(gm:∀p∈lmA,KD p.1)(gq:∀p,p∈m↔∃k∈ks,lmA[k]?=some p)
 (af:VE 4 323 lmA (fun k=>(g k).length) (fun k=>CK (g k)) MS)(j5:∀j p,lmA[j]?=some p->if j∈ks then Rs (Ep vs p.1) (g p.1)else g p.1=Ep vs p.1)(gQ:(DU lmA ks).Perm lmA)
 {lp mz mj:Nat}{ML:List A8}(h1:(lp,Obj.cells #[.map (some mz),.map (some mj)] 318 (0,0))∈ML)(h2:(mz,Obj.map U K)∈ML)(h3:(mj,Obj.map O J)∈ML)(h4:∀c∈MS,c∈ML)(h5:∀c∈MJ,c∈ML):
 QH (fun a b=>g (a,b)) (Fa vs) lp ML/\Jh qs (fun a b=>g (a,b)) (Fa vs):=by
 have hv:=A18 l5 X gy;have bn:∀j p,lmA[j]?=some p->j∈ks:=fun j p hj=>by
  obtain ⟨i,hi,he⟩:=cV.1 (gQ.mem_iff.2 (Ek hj));obtain rfl:=Lf cu he hj rfl;exact hi
 have hS:∀p,p∈m↔p∈lmA:=fun p=>by
  rw [gq];constructor;· rintro ⟨k,_,hk⟩;exact Ek hk
  · intro B
    obtain ⟨i,hi⟩:=HU B;exact ⟨i,bn i p hi,hi⟩
 have ax:∀k,EM k m=EM k lmA:=pG cO.keys cu hS;have hD:∀k,Rs (Ep vs k) (g k):=fun k=>by
  by_cases hk:∃v,(k,v)∈lmA
  · obtain ⟨v,l9⟩:=hk
    obtain ⟨i,hi⟩:=HU l9;have h:=j5 i _ hi
    rw [Ax (bn i _ hi)]at h;exact h
  · have hn:EM k lmA=none:=DY fun p B he=>hk ⟨p.2,by rw [<-he];exact B⟩
    obtain ⟨s,W,_⟩:=af.row k;obtain ⟨s',d9,_⟩:=ic.row k;rw [hn]at W d9;have e1:(g k).length=0:=by
     rcases W with⟨_,⟨_,h,_⟩|⟨g9,cap,cur,z,h,_⟩⟩
     · exact h
     · simp at h
    have e2:(Ep vs k).length=0:=by
     rcases d9 with⟨_,⟨_,h,_⟩|⟨g9,cap,cur,z,h,_⟩⟩
     · exact h
     · simp at h
    rw [NX e1,NX e2];exact ⟨[],.refl _,.nil,V,fun j k x y _ h=>absurd h (iS k)⟩
 refine ⟨⟨⟨mz,U,K,m,mj,O,J,Z,h1,h2,cO,fun p B=>gm p ((hS p).1 B),h3,kv,fun a b=>?_,fun t=>?_⟩,fun a b=>?_,fun a b=>?_⟩,⟨fun a b v i=>?_,fun t i=>?_,fun t=>?_⟩⟩
 · obtain ⟨s,W,hs⟩:=af.row (a,b)
   rw [ax];exact bU W fun c hc=>h4 c (hs c hc)
 · obtain ⟨s,W,hs⟩:=j3.row t
   exact dC W fun c hc=>h5 c (hs c hc)
 · obtain ⟨o',B,l8,hk,W⟩:=hD (a,b)
   exact bP hk l8
 · have:=rQ (hD (a,b))
   have:=UU vs (a,b);have:=X.1
   show(g (a,b)).length<=1000000;omega
 · rw [rP (hD (a,b))]
   unfold Ep;simp only [CI,GF,HA];constructor
   · rintro ⟨_,⟨x,⟨hx,B⟩,rfl⟩,G,I,a3⟩
     exact ⟨x,(hv x).1 hx,a3,B,G,I⟩
   · rintro ⟨x,hx,a3,B,G,I⟩
     exact ⟨_,⟨x,⟨(hv x).2 hx,B⟩,V⟩,G,I,a3⟩
 · unfold Fa
   simp only [CI,GF,HA];constructor
   · rintro ⟨x,⟨hx,G,I⟩,rfl⟩
     exact ⟨x,(hv x).1 hx,V,G,I⟩
   · rintro ⟨x,hx,rfl,G,I⟩
     exact ⟨x,⟨(hv x).2 hx,G,I⟩,V⟩
 · have:=dD vs t
   have:=X.1;omega
end Go.Proofs.YtlkdhannldcfbabGreatDoor
