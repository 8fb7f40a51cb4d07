/- slices.Backward; digest.Root. -/
import Derived.Test.YthhakdmlpngcmaaGreatDoorTr1
set_option linter.unusedVariables false
set_option linter.unusedSimpArgs false
namespace Go.Proofs.YthhakdmlpngcmaaGreatDoor
open Go.Proofs.Tryz
open Go Go.RowKit Gw
set_option maxRecDepth 100000
attribute [local irreducible] Gw.At Gw.Nx Gw.Ops
def bwd{α:Type} [Inhabited α](ls:List α):List (Nat×α):=(List.range ls.length).reverse.map (fun i=>(i,ls.getD i default))
variable{α:Type}
theorem RO [Inhabited α](ls:List α):(bwd ls).length=ls.length:=by simp [bwd]
theorem Xf [Inhabited α]{ls:List α}{m:Nat}{s:α}(h:ls[m]?=some s):(bwd ls)[ls.length -(m+1)]?=some (m,s):=by
 have g:=(C4.1 h).1;unfold bwd;rw [DP,List.getElem?_reverse Hi,Wg,Ss A0];rw [show ls.length -1 -(ls.length -(m+1))=m by omega];simp [List.getD,h]
theorem Jn [Inhabited α](ls:List α):(bwd ls).map Prod.snd=ls.reverse:=by
 apply Mb;intro i;by_cases hi:i<ls.length
 · have g:ls[ls.length -1 -i]?=some (ls[ls.length -1 -i]'A0):=BT _
   have h2:=Xf g;rw [show ls.length -(ls.length -1 -i+1)=i by omega]at h2;rw [DP,h2,List.getElem?_reverse hi,g];rfl
 · rw [MT (by rw [B6,RO];omega),MT Hi]
theorem yU [Inhabited α]{ls:List α}{x:Nat×α}(h:x∈bwd ls):x.2∈ls:=by
 have g:x.2∈(bwd ls).map Prod.snd:=C6.2 ⟨x,h,rfl⟩;rw [Jn,fR]at g;exact g
theorem KA{xs:List α}{j:Nat}{x:α}(h:xs[j]?=some x):xs=xs.take j++x::xs.drop (j+1):=by
 have g:=(C4.1 h).1;rw [BT g]at h;injection h with h
 rw [<-h,<-RR g,J0]
theorem uf(xs:List Bs)(q:Bs):(bwd xs).foldl (fun o (x:Nat×Bs)=>JI x.2 o) q=xs.reverse.foldl (fun o r=>JI r o) q:=by
 rw [<-Jn,List.foldl_map]
theorem We(f:List α->A4)(ps:List (List α))(p q:List α):(((ps++[p])++[q]).map f)[(ps++[p]).length+1 -2]?=some (f p)/\(((ps++[p])++[q]).map f)[(ps++[p]).length+1 -1]?=some (f q):=by
 have e:(ps++[p]).length=ps.length+1:=by simp
 constructor;· rw [show(ps++[p]).length+1 -2=ps.length by omega];simp
 · rw [show(ps++[p]).length+1 -1=ps.length+1 by omega];simp
theorem Y7(f:List α->A4)(ps:List (List α))(p q:List α):(((ps++[p])++[q]).map f).take (((ps++[p]).length+1 -2)*1)=ps.map f:=by
 rw [show((ps++[p]).length+1 -2)*1=(ps.map f).length by simp];simp
theorem xm(f:List α->A4)(ps:List (List α))(q:List α):((ps++[q]).map f)[(ps++[q]).length -1]?=some (f q):=by
 rw [show(ps++[q]).length -1=ps.length by simp];simp
theorem mo(f:List α->A4)(ps:List (List α))(q:List α):((ps++[q]).map f).take (((ps++[q]).length -1)*1)=ps.map f:=by
 rw [show((ps++[q]).length -1)*1=(ps.map f).length by simp];simp
theorem jS{ps:List α}(h:0<ps.length):∃g p,ps=g++[p]:=by
 rcases ij ps with rfl|⟨a,b,e⟩
 · simp at h
 · exact ⟨a,b,by rw [e,nt]⟩
theorem uZ(xs:List (Nat×Bs))(q:Bs)(g:q.length=32):(xs.foldl (fun o (x:Nat×Bs)=>JI x.2 o) q).length=32:=by
 rcases ij xs with rfl|⟨ys,y,rfl⟩
 · exact g
 · rw [nt,bm];exact Ws _
theorem Un(p:B8)(n c:Nat):BR prog 241 #[.slice p n c] [] (fun r H'=>∃b,r= .func (.func 276) #[] #[I5 b]/\H'=[[(b,.cells #[.slice p n c] 52 (0,0))]]):=by
 refine Se func241 ntmps241 [0] ?_;intro u R;refine A1<|Ze (Bx #[_])<|AG fun b=>A5 Y<|A1<|Zv (Bg (vs:=[]) (us:=[_]) Y Y)<|A5 Y<|AJ<|AP V results241 Y (by exact ⟨_,V,V⟩)
variable{M:List A9}{v:A4}{ls:List Bs}
theorem Uo(hv:Eb M v ls)(b:Nat)(hn:ls.length<=1000000000000):
 Ef prog 276 #[I5 b] [[(b,.cells #[v] 52 (0,0))]] (fun s=>∀c∈M,c∈s) (fun x=>#[I4 ((x.1:Nat):Int),G7 x.2]) (bwd ls):=by
 have af:=mL;obtain ⟨p,cap,rfl,hl,hg⟩:=hv;intro l J hA hy s B;refine Se func276 ntmps276 [0,1] ?_;intro u R;refine A1<|Zl LL Y ?_;refine Zv (Ac DH Y) ?_
 (refine BU (FP Y Y (IntWalk.i64_in _ ?_)) ?_;(focus (omega)))
 refine A5 Y<|AQ<|Zb [3,0,1] ?_;refine BI (e0:=[(3,_)]) (fun m e H=>∃(k:Nat) (s:List A9),m=0+k/\(k<=ls.length/\J ((bwd ls).take (ls.length -k)) s)/\e=[(3,I4 ((k:Int) -1))]/\H=[[(b,.cells #[.slice p ls.length cap] 52 (0,0))],s]) (by exact ⟨ls.length,s,rfl,⟨CI _,by rw [T5,IF];exact B⟩,rfl,rfl⟩) Wp ?_;rintro _ _ _ ⟨k,s,rfl,⟨hk,B⟩,rfl,rfl⟩;refine Zq<|A1<|Zm Y<|Zv (Gj Y Y)<|A6<|Aw Y (fun X=>?_) (fun X=>?_);·
  obtain ⟨m,rfl⟩:∃m,k=m+1:=⟨k -1,by omega⟩;rw [show(((m+1:Nat):Int) -1)=((m:Nat):Int) by omega];obtain ⟨z9,O⟩:∃z9,ls[m]?=some z9:=⟨_,BT A0⟩;have G:=Xf O
  obtain ⟨g,o,cur,T,zz,rfl,hm,I⟩:=hg m z9 O;have K:=I
  have Z:=hy _ _ _ s (KA G) B;refine AC<|Zx<|Zq<|AQ<|A1<|Zm Y<|Zm Y<|Zl LL Y ?_;refine Zm Y<|BU (CG DH Fm Y Y A0)<|CS (cs:=[(g,.cells cur T zz)]) (by simp [hA _ s B _ hm]) (BF Hh Y K) V rfl ?_;refine Ze (Fe (vs:=[_,_]) Y Y (Z) Wp) ?_;rintro _ _ ⟨_,⟨s',rfl,rfl,U⟩,rfl⟩;refine Zv (Bt Y)<|A6<|AU Y (fun hb=>by cases hb)<|fun hb=>AC<|A8<|Zx<|Zg<|Zm Y ?_
  (refine BU (FP Y Y (IntWalk.i64_in _ ?_)) ?_;(focus (omega)))
  refine AW Y<|Zn [3,0,1] ?_;refine Aa (e':=[(3,_)]) (by exact ⟨m,s',rfl,⟨by omega,by rw [show ls.length -m=ls.length -(m+1)+1 by omega,Bn G];exact U⟩,rfl,rfl⟩)
 have W:k=0:=by omega
 subst W;rw [S5,Hx (by rw [RO];exact CI _)]at B;refine BD<|Zt<|Zt<|AV<|Ce V results276 (by exact ⟨s,V,B⟩)
theorem Pp(hv:Eb M v ls)(hn:ls.length<=1000000)(hs:∀s∈ls,s.length<=140737488354000)(Tg:AM)(zg:Nat×Nat):BJ prog 191 #[v] [[(4,.cells (Ew.map Cz).toArray Tg zg)],M] (.string (str (Dm ls))):=by
 have sO:=mL;obtain ⟨p,cap,rfl,hl,hg⟩:=hv;refine DU func191 V ntmps191 V ?_;intro u R;refine Zb [0] ?_;refine A1<|A5 Y<|A1<|A5 Y<|A1<|A5 Y<|Zq<|A1<|Zm Y<|Zv (Ac DH Y)<|Zm Y<|A6<|AQ<|Bc<|Bc<|Zb [3,4,13,11,12] ?_;refine BI (e0:=[(3,_),(4,_),(13,_)]) (fun m e H=>∃(i:Nat) (ps:List (List Bs)) (vw:A4) (sw:List A9) (vz:A4) (sz:List A9),m=ls.length -i/\(i<=ls.length/\JU ps/\ps.flatten=ls.take i/\Bd 1 9 vw ps.length (ps.map rtV) sw/\Bd 1 3 vz ps.length (ps.map lnV) sz/\ps.length<=i)/\e=[(3,vw),(4,vz),(13,I4 (i:Int))]/\H=[sw,sz]) (by exact ⟨0,[],.slice none 0 0,[],.slice none 0 0,[],V,⟨C7 _,vR,V,Bj 1 _,Bj 1 _,CI _⟩,V,V⟩) Wp ?_;rintro _ _ _ ⟨i,ps,vw,sw,vz,sz,rfl,⟨hi,hB,hf,J,X,pz⟩,rfl,rfl⟩;refine A1<|Zv (Ay Y Y)<|A6<|Zq<|Aw Y (fun j3=>?_) (fun j3=>?_);·
  obtain ⟨s9,d9⟩:∃s9,ls[i]?=some s9:=⟨_,BT j3⟩;obtain ⟨g,o,cur,T,zz,rfl,pq,ic⟩:=hg i s9 d9;obtain ⟨qw,cw,rfl⟩:=J.form;obtain ⟨qz,cz,rfl⟩:=X.form;have kv:=hs s9 (DQ d9)
  refine AC<|Zx<|Zq<|AQ<|A1<|BU (CG DH Fm Y Y A0)<|CS (cs:=[(g,.cells cur T zz)]) (by simp [pq]) (BF Hh Y ic) V rfl ?_;refine A5 Y<|A1<|Zm Y<|Zm Y<|Xr [_] Y call238 Y V (mg s9 kv Tg zg) ?_;refine Ze (Ai (vs:=[_]) (cs:=[_]) DH Fm HS Y V rfl V rfl V)<|AG fun b1=>Ze (Ee (by_:=16) (sz:=1) (news:=[_]) DH (V:Tryz.prog.info? 9=some Tryz.t9) V rfl V rfl Y J Y Wo Wh B0 V Ft B1 A0 A0) ?_;rintro _ _ ⟨sw,J,rfl⟩;obtain ⟨gw,cw,rfl⟩:=J.form;refine Zm Y<|Ze (Ai (vs:=[_]) (cs:=[_]) DE AE HJ Y V rfl V rfl V)<|AG fun b3=>Ze (Ee (by_:=8) (sz:=1) (news:=[_]) DE (V:Tryz.prog.info? 3=some Tryz.t3) V rfl V rfl Y X Y Wo Wh B0 V Ft B1 A0 A0) ?_;rintro _ _ ⟨sz,X,rfl⟩;obtain ⟨gz,cz,rfl⟩:=X.form;refine Za Y<|AW Y<|Zn [3,4,11,12,13] ?_;refine Zx<|A1<|Zm Y<|Zv (Ac DE Y)<|A5 Y<|AQ<|Zb [3,4,7,11,12,13] ?_;refine BI (e0:=[(3,_),(4,_),(7,_)]) (fun m e H=>∃(G:List (List Bs)) (q:List Bs) (gq:A4) (ek:List A9) (gy:A4) (gm:List A9),m=0+G.length/\(O4 ls G q (i+1)/\Bd 1 9 gq (G.length+1) ((G++[q]).map rtV) ek/\Bd 1 3 gy (G.length+1) ((G++[q]).map lnV) gm/\G.length<=i)/\e=[(3,gq),(4,gy),(7,I4 ((G.length+1:Nat):Int))]/\H=[ek,gm]) (by exact ⟨ps,[s9],_,_,_,_,rfl,⟨mM hB hf d9,BZ J rfl (by rw [C0,Lo];unfold rtV;rw [qf];rfl),BZ X rfl (by rw [C0];rfl),pz⟩,rfl,rfl⟩) Wp ?_;rintro _ _ _ ⟨G,q,gq,ek,gy,gm,rfl,⟨hM,O,U,ve⟩,rfl,rfl⟩;refine Zq<|Zq<|BA (n:=15) (0::1::3::7::7::23::63::127::7::7::519::1799::3847::8191::16383::[]) 0 AF AF V<|A3 0 V (AO Y)<|A3 1 V (DR (n:=1) Y Y)<|A3 2 V (AO Y)<|DF (t:=29) Y (fun cO=>?_) (fun cO=>?_);·
   rw [DG cO];obtain ⟨B,Z,rfl⟩:=jS (ps:=G) A0;have vo:(B++[Z]).length=B.length+1:=by simp
   obtain ⟨cu,o9,W,l9,rfl,rfl,j5,K⟩:=Lj (id O) A0;obtain ⟨sJ,qx,o8,y5,rfl,rfl,ql,af⟩:=Lj (id U) A0;have qj:=af _ _ (We lnV B Z q).1
   have l8:=af _ _ (We lnV B Z q).2;have dn:=K _ _ (We rtV B Z q).1
   have qa:=K _ _ (We rtV B Z q).2;have q9:q.length<=ls.length:=by have h9:=congrArg List.length hM.flat;rw [Bm,CD]at h9;omega
   refine An 3 V (AO Y)<|An 4 V (AO Y) ?_
   (refine An 5 rfl (CO (n:=2) Y Y ?_ ?_) ?_;(focus (omega));(focus (omega)))
   refine An 6 V (Be DE AE Y Y A0)<|DO 7 V Wh (BF AH Y qj) ?_;refine An 8 V (AO Y)<|An 9 V (AO Y) ?_
   (refine An 10 rfl (CO (n:=1) Y Y ?_ ?_) ?_;(focus (omega));(focus (omega)))
   refine An 11 V (Be DE AE Y Y A0)<|DO 12 V Wh (BF AH Y l8) ?_;refine An 13 V (Ci Y Y)<|A3 14 V (AX Y Y)<|Ag<|Zn [3,4,7,11,12,13,41] ?_;refine Zx<|Aw Y (fun he=>?_) (fun he=>?_);·
    have l5:=hM.step he;refine AC<|Zx<|Zq<|AQ<|Zq<|BA (n:=18) (0::0::2::7::0::0::32::112::240::0::0::1024::3584::7680::16368::32752::65535::131071::[]) 114688 AF AF V<|A3 0 V (AO Y)<|A3 1 V (AO Y) ?_
    (refine Dn (D':=7) 2 (CO (n:=2) Y Y ?_ ?_) ?_;(focus (omega));(focus (omega)))
    refine A3 3 V (Bq DH Fm Y Y A0)<|A3 4 V (AO Y)<|A3 5 V (AO Y) ?_
    (refine Dn (D':=127) 6 (CO (n:=2) Y Y ?_ ?_) ?_;(focus (omega));(focus (omega)))
    refine A3 7 rfl (Be DH Fm Y Y (by first|omega|(simp;omega)))<|BE 8 rfl Hh Y (hv:=by exact dn) ?_;refine A3 9 V (AO Y)<|A3 10 V (AO Y) ?_
    (refine Dn (D':=4095) 11 (CO (n:=1) Y Y ?_ ?_) ?_;(focus (omega));(focus (omega)))
    refine A3 12 rfl (Be DH Fm Y Y (by first|omega|(simp;omega)))<|BE 13 rfl Hh Y (hv:=by exact qa) ?_;refine Yw 14 32767 rfl (Zu [_,_] Y call239 Y rfl (Vf (Dm Z) (Dm q) (by rw [Lr];omega) (by rw [Lr];omega) Tg zg))<|Cp<|Yw 15 65535 V (Ai (vs:=[_]) (cs:=[_]) DH Fm HS Y V rfl V rfl V)<|AG fun b5=>Yw 16 131071 V (Ee (by_:=16) (sz:=1) (news:=[_]) DH (V:Tryz.prog.info? 9=some Tryz.t9) V rfl V rfl Y (Pm O ((B++[Z]).length+1 -2) A0) Y Wo Wh B0 V Ft B1 A0 A0) ?_;rintro _ _ ⟨wo,ax,rfl⟩;obtain ⟨sj,qo,rfl⟩:=ax.form;refine A3 17 V (Aq Y)<|Ag<|Zn [3,4,7,11,12,13] ?_;refine Zx<|BA (n:=13) (0::0::2::7::0::0::32::112::240::496::1008::2047::4095::[]) 3072 AF AF V<|A3 0 V (AO Y)<|A3 1 V (AO Y) ?_
    (refine Dn (D':=7) 2 (CO (n:=2) Y Y ?_ ?_) ?_;(focus (first|omega|(simp;omega)));(focus (first|omega|(simp;omega))))
    refine A3 3 V (Bq DE AE Y Y A0)<|A3 4 V (AO Y)<|A3 5 V (AO Y) ?_
    (refine Dn (D':=127) 6 (CO (n:=1) Y Y ?_ ?_) ?_;(focus (first|omega|(simp;omega)));(focus (first|omega|(simp;omega))))
    refine A3 7 rfl (Be DE AE Y Y (by first|omega|(simp;omega)))<|BE 8 rfl AH Y (hv:=by exact l8) ?_;refine A3 9 rfl (F8 (m:=2) Y Y (by first|omega|(simp;omega)))<|Yw 10 2047 rfl (Ai (vs:=[_]) (cs:=[_]) DE AE HJ Y rfl rfl rfl rfl rfl)<|AG fun b7=>Yw 11 4095 V (Ee (by_:=8) (sz:=1) (news:=[_]) DE (V:Tryz.prog.info? 3=some Tryz.t3) V rfl V rfl Y (Pm U ((B++[Z]).length+1 -2) A0) Y Wo Wh B0 V Ft B1 A0 A0) ?_;rintro _ _ ⟨wz,bn,rfl⟩;obtain ⟨sM,r9,rfl⟩:=bn.form;refine A3 12 V (Aq Y)<|Ag<|Zn [3,4,7,11,12,13] ?_;refine A8<|Zx<|Zg<|Zm Y<|Yb (n:=1) Y Y<|AW Y<|Zn [3,4,7,11,12,13] ?_;refine Aa (e':=[(3,_),(4,_),(7,_)]) (by exact ⟨B,Z++q,_,_,_,_,rfl,⟨l5.1,BZ ax A0 (by rw [Y7,C0,Lo];unfold rtV;rw [l5.2];rfl),BZ bn A0 (by rw [Y7,C0,Lo];unfold lnV;rw [Bm,he,<-Nat.two_mul]),by omega⟩,(by rw [show(B++[Z]).length+1 -1=B.length+1 by omega]),rfl⟩)
   have hD:=hM.done (fun a b e9=>by have e8:=List.singleton_inj.1 (iv e9 rfl).2;rw [<-e8];exact he);refine BD<|Zt<|Zt<|AV<|A8<|Zx<|Zg<|Ya (n:=1) Y Y<|Zm Y<|Z0<|Zn [3,4,13,11,12] ?_;refine Aa (e':=[(3,_),(4,_),(13,_)]) (by exact ⟨i+1,_,_,_,_,_,rfl,⟨by omega,hD.1,hD.2,BZ O B4 rfl,BZ U B4 rfl,by rw [Bm];simp;omega⟩,rfl,rfl⟩)
  rw [Cl cO];have hD:=hM.done (fun a b e9=>by have e8:=congrArg List.length e9;rw [Bm]at e8;simp at e8;omega)
  refine AN 3 V<|AN 4 V<|AN 5 V<|AN 6 V<|AN 7 V<|AN 8 V<|AN 9 V<|AN 10 V<|AN 11 V<|AN 12 V<|AN 13 V<|A3 14 V (AL Y Y)<|Ag<|Zn [3,4,7,11,12,13,41] ?_;refine Zx<|D9 Y<|BD<|Zt<|Zt<|AV<|A8<|Zx<|Zg<|Ya (n:=1) Y Y<|Zm Y<|Z0<|Zn [3,4,13,11,12] ?_;refine Aa (e':=[(3,_),(4,_),(13,_)]) (by exact ⟨i+1,_,_,_,_,_,rfl,⟨by omega,hD.1,hD.2,BZ O B4 rfl,BZ U B4 rfl,by rw [Bm];simp;omega⟩,rfl,rfl⟩)
 have ei:i=ls.length:=by omega
 subst ei;rw [Hx (CI _)]at hf;obtain ⟨qw,cw,rfl⟩:=J.form;refine BD<|Zt<|Zt<|AV<|Zx<|Zq<|A1<|Zm Y<|Zv (Ac DH Y)<|Zv (Ci (n:=0) Y Y)<|A6<|Aw Y (fun h0=>?_) (fun h0=>?_);·
  have e0:=Ln h0;subst e0;have e1:ls=[]:=hf.symm
  refine A1<|Xr [_] Y call240 Y V (iy [] B4 Tg zg) ?_;refine A5 Y<|AJ<|Zt<|TI rfl (dU results191 Y) (by exact ⟨by rw [e1,qg],rfl⟩)
 obtain ⟨B,q,rfl⟩:=jS (ps:=ps) A0;obtain ⟨cu,o9,W,l9,pg,rfl,j5,K⟩:=Lj (id J) A0;injection pg with hev1 hev2 hev3
 subst hev1 hev3;have dn:=K _ _ (xm rtV B q)
 have q9:(B++[q]).length=B.length+1:=by simp
 refine AC<|Zx<|A1<|Zm Y<|Zm Y<|Zv (Ac DH Y)<|Yb (n:=1) Y Y ?_;refine BU (Be DH Fm Y Y A0)<|Zl Hh Y (hv:=by exact dn) ?_;refine Ze (Al HS #[_])<|AG fun ob=>Xe (Zs Fm Y Y V (hc:=by exact (V:_=(#[G7 (Dm q)]:AK)))) ?_;refine A6<|Zq<|A1<|Zm Y<|Zm Y<|Zv (Ac DH Y)<|Yb (n:=1) Y Y ?_;refine BU (Bq DH Fm Y Y A0)<|Zc [_] Y call241 Y V (Un _ _ _) ?_;rintro _ _ ⟨_,⟨bb,rfl,rfl⟩,rfl⟩;refine Z0<|Zn [8,89] ?_;refine Zx<|AQ<|Zb [8,89] ?_;refine LP (H0:=_) (R:=_) (I:=(fun pre H=>H=[[(ob,.cells #[G7 (pre.foldl (fun o (x:Nat×Bs)=>JI x.2 o) (Dm q))] 9 (0,0))],[(cu,.cells W 9 l9)],[(4,.cells (Ew.map Cz).toArray Tg zg)]])) (asg:=fun x=>[(10,G7 x.2),(91,G7 x.2),(90,I4 ((x.1:Nat):Int))]) rfl Y call276 (Uo (ls:=B.map Dm) (v:=I6 cu ((B++[q]).length -1) cw) (He (BZ (Pm J ((B++[q]).length -1) A0) B4 (by rw [mo,K0];rfl)) (by rw [B6];omega)) bb (by rw [B6];omega)) (fun pre H1 c d h=>by subst h;intro x hx;simp at hx;simp [hx]) Y rfl Wp (rfl) ?ha_13 ?hbd_13 ?hk_13
 case ha_13=>
  intro _ x _ _;refine Zg<|Za Y<|Z0 ?_;exact jL
 case hbd_13=>
  intro l pre x post u H1 R1 qb hI;subst hI;refine AQ<|Zg<|Zm Y<|Zl Hh Y ?_;refine Xr [_,_] Y call239 Y rfl (Vf x.2 _ (by obtain ⟨y9,_,e9⟩:=C6.1 (yU (Vh qb));rw [<-e9,Lr];omega) (by rw [uZ _ _ (Lr q)];omega) Tg zg) ?_;refine Xe (Zs Fm Y Y V) ?_;refine Z0<|A8<|Eg rfl (by rw [bm])
 intro D1 H2 p8;subst p8;refine Zn [8] ?_;refine A8<|Zx<|A1<|Zl Hh Y ?_;refine A5 Y<|AJ<|Fv rfl (dU results191 Y) Wo (by exact ⟨by rw [uf,uY,hB.root,<-hf];simp,rfl⟩)
theorem U9:∀(f x:Nat),0<x->x<2^f->Lib.bitLenAux f x=Nat.log2 x+1
 |0,x,h0,h1=>by simp at h1;omega
 |f+1,x,h0,h1=>by
  unfold Lib.bitLenAux;rw [As A0];rw [fg]at h1;rcases FF x 2 with h|h
  · have e:x=1:=by omega
    subst e;cases f<;>rfl
  · rw [U9 f (x/2) A0 A0]
    conv=>rhs;rw [Nat.log2_def,Ax h]
    omega
theorem mZ(n:Nat)(g:2<=n)(h2:n<=1000000000000):Lib.bitLen (n -1)=Nat.log2 (n -1)+1:=U9 64 (n -1) A0 A0
def FZ(l:List Bs)(i:Nat):List Bs:=
 if h:2<=l.length then
  if i<Db l.length then FZ (l.take (Db l.length)) i++[Dm (l.drop (Db l.length))]
  else FZ (l.drop (Db l.length)) (i -Db l.length)++[Dm (l.take (Db l.length))]
 else []
termination_by l.length
decreasing_by
 · have:=P8 h;rw [CD];omega
 · have:=Oz l.length;rw [CH];omega
variable{l:List Bs}
theorem VQ(h:l.length<=1)(i:Nat):FZ l i=[]:=by rw [FZ,dif_neg A0]
variable{i:Nat}
theorem Qc(h:2<=l.length)(hi:i<Db l.length):FZ l i=FZ (l.take (Db l.length)) i++[Dm (l.drop (Db l.length))]:=by rw [FZ,dif_pos h,Ax hi]
theorem Oj(h:2<=l.length)(hi:¬i<Db l.length):FZ l i=FZ (l.drop (Db l.length)) (i -Db l.length)++[Dm (l.take (Db l.length))]:=by rw [FZ,dif_pos h,As hi]
theorem Eb.take{p:B8}{cap:Nat}(h:Eb M (.slice p ls.length cap) ls)(n:Nat)(I:n<=ls.length):Eb M (.slice p n cap) (ls.take n):=by
 obtain ⟨J,m,e,G,B⟩:=h;injection e with e1 e2 e3
 subst e1 e3;have g:(ls.take n).length=n:=by rw [CD];omega
 refine ⟨p,cap,by rw [g],by rw [g];omega,fun i z hz=>B i z ?_⟩;rw [HI]at hz;split at hz;· exact hz
 · cases hz
theorem Eb.drop{B g cap:Nat}(h:Eb M (.slice (some ⟨B,g,none⟩) ls.length cap) ls)(n:Nat)(hn:n<ls.length):Eb M (.slice (some ⟨B,g+n,none⟩) (ls.length -n) (cap -n)) (ls.drop n):=by
 obtain ⟨p',K,e,Z,W⟩:=h;injection e with e1 e2 e3
 subst e1 e3;refine ⟨_,_,by rw [CH],by rw [CH];omega,fun i z hz=>?_⟩;rw [RW]at hz;obtain ⟨X,O,m,U,J,e2,I,G⟩:=W (n+i) z hz;injection e2 with e2;injection e2 with e3 e4
 subst e3 e4;exact ⟨B,g+n,m,U,J,rfl,I,by rw [fY];exact G⟩
variable{e:AM}
theorem nR{w:AD}{g:Nat}{cur:AK}{z:Nat×Nat}(enc:Bs->A4){zs:List Bs}(I:w.heap[g]?=some (.cells cur e z))(K:zs.length<=cur.size)(B:Ie z cur.size)(O:cur.toList.take zs.length=zs.map enc):Go.Sort.Holds enc w g 0 zs.toArray:=by
 intro j J;have m:j<zs.length:=by simpa using J
 have U:=B j A0;have G:(cur.toList.take zs.length)[j]?=(zs.map enc)[j]?:=by rw [O]
 rw [lP m]at G;refine ⟨?_,?_⟩
 · simp only [World.cell?,I,D3]
   simp only [oE,N0,HT];rw [<-HQ,G];simp [m]
 · simp only [World.frozen?,I,D3]
   simp;omega
theorem X5(enc:Bs->A4)(cur:AK)(g:List Bs)(h:g.length<=cur.size):(Go.Sort.putCells enc 0 g.toArray cur).toList.take g.length=g.map enc:=by
 apply Mb;intro j;rw [HI];by_cases m:j<g.length
 · rw [Ax m,HQ]
   unfold Go.Sort.putCells;rw [nq,HP A0];simp [m]
 · rw [As m,MT Hi]
theorem Sat.sorted_enc{u w:AD}{g n:Nat}{cur:AK}{z:Nat×Nat}{R:Hp}(enc:Bs->A4)(d:Array Bs)(h:Sat u ([(g,.cells cur e z)]::R) w):Sat u ([(g,.cells (Go.Sort.putCells enc 0 d cur) e z)]::R) (Go.Sort.putRow enc (Go.Sort.ahead w n) g 0 d):=by
 have m:=h.get (g,.cells cur e z) B4;refine h.upd (.here _) V rfl V ?_ fun k B=>?_;· simp [Go.Sort.putRow,Go.Sort.mapBlock,Go.Sort.ahead,Sf,m,Go.Sort.onCells]
 · have:g≠k:=fun e=>B e.symm
   simp [Go.Sort.putRow,Go.Sort.mapBlock,Go.Sort.ahead,Sf,this]
theorem Wz{s:List A9}(h:Bd 1 9 v ls.length (ls.map G7) s)(hn:ls.length<=1000000000000):BR prog 193 #[v] [s] (fun r H'=>r= .tuple #[]/\∃U,Bd 1 9 v ls.length (ls.reverse.map G7) U/\H'=[U]):=by
 obtain ⟨O,⟨rfl,h0,rfl⟩|⟨g,cap,cur,z,rfl,rfl,K,J,m,G,B⟩⟩:=h
 · intro u R w I
   have e:ls=[]:=Ln h0;subst e;exact (Tryz.slices_Reverse_string_empty none 0 w).mono (by
    rintro e Z ⟨rfl,rfl⟩;exact .inl ⟨_,_,V,⟨V,[],Bj 1 _,V⟩,I⟩)
 · intro u R w I
   rw [Mn]at m G;have X:=I.get (g,.cells cur 9 z) B4
   have W:=nR (w:=w) (g:=g) (e:=9) (z:=z) G7 (zs:=ls) X A0 B G;refine (Tryz.slices_Reverse_string g 0 cap ls w W A0).mono ?_;rintro e Z ⟨rfl,n,rfl⟩;refine .inl ⟨_,_,V,⟨V,_,⟨by simp,.inr ⟨g,cap,_,z,V,V,K,J,?_,?_,?_⟩⟩,V⟩,Sat.sorted_enc (n:=n) G7 ls.reverse.toArray I⟩;· rw [Mn];simp [Go.Sort.putCells,m]
   · rw [Mn]
     have:=X5 G7 cur ls.reverse (by rw [mA];omega);rw [mA]at this;exact this
   · simpa [Go.Sort.putCells]using B
theorem mY(n:Nat)(g:2<=n)(h2:n<=1000000000000):BJ prog 192 #[I4 (n:Int)] [] (I4 ((Db n:Nat):Int)):=by
 have B:=mZ n g h2;have G:=P8 g
 unfold Db at G;have I:(n -1).log2<64:=(Nat.log2_lt A0).2 A0
 refine Se func192 ntmps192 [0] ?_;intro u R;refine A1<|A5 Y<|A1<|Zm Y<|BU (CO (n:=1) Y Y (by first|omega|(rw [Rg];omega)) (by first|omega|(rw [Rg];omega)))<|BU (M0 D4 X2 Y (by first|omega|(rw [Rg];omega)))<|Xr [_] Y call105 Y rfl (Rp (H:=[]) (Rl:=fun v=>v=I4 ((Lib.bitLen (n -1):Nat):Int)) (fun w _=>(Tryz.bits_Len ((n -1:Nat):Int) w A0 A0).mono (by rintro e J ⟨rfl,rfl⟩;exact ⟨_,rfl,by rw [UP],Below.refl _ _⟩)) (fun v h=>⟨h,rfl⟩)) ?_;rw [B];refine BU (CO (n:=1) Y Y (by first|omega|(rw [Rg];omega)) (by first|omega|(rw [Rg];omega)))<|BU (UY (m:=1) Y Y A0 (by first|omega|(rw [Rg];omega)))<|A5 Y<|AJ<|AP rfl results192 Y (by exact ⟨by rw [Rg,Nat.one_mul];rfl,rfl⟩)
theorem dh(hv:Eb M v ls)(hn:ls.length<=1000000)(hs:∀s∈ls,s.length<=140737488354000)(i:Nat)(hi:i<ls.length)(Z:AM)(zg:Nat×Nat):
 BR prog 146 #[v,I4 (i:Int)] [[(4,.cells (Ew.map Cz).toArray Z zg)],M] (fun r H'=>∃vp sp,r= .tuple #[vp,I4 0]/\Bd 1 9 vp (FZ ls i).length ((FZ ls i).map G7) sp/\H'=[sp,[(4,.cells (Ew.map Cz).toArray Z zg)],M]):=by
 have ic:=mL;obtain ⟨p,cap,rfl,hl,hg⟩:=id hv;refine Se func146 ntmps146 [0,1] ?_;intro u R;refine A1<|Za Y<|A5 Y<|bH ?_;refine Zq<|A1<|Zm Y<|Zv (Ay (n:=0) Y Y)<|Zm Y<|Ao (t:=12) Y V (fun h1=>by omega)<|fun h1=>Zf Y Y<|Zf Y Y<|Yg (Ac DH Y)<|Yg (Gi Y Y)<|Zv (AL Y Y)<|A6<|Aw Y (fun h2=>by omega)<|fun h2=>AC<|Zx<|A1<|A5 Y<|Zq<|bI<|Zx<|Zq<|AQ<|Bc<|Zb [0,1,6] ?_;refine BI (e0:=[(0,_),(1,_),(6,_)]) (fun m e H=>∃(l2:List Bs) (i2:Nat) (p2:B8) (cap2:Nat) (o:List Bs) (vo:A4) (so:List A9),m=0+l2.length/\(Eb M (.slice p2 l2.length cap2) l2/\i2<l2.length/\(∀s∈l2,s.length<=140737488354000)/\FZ ls i=FZ l2 i2++o.reverse/\Bd 1 9 vo o.length (o.map G7) so/\o.length+l2.length<=ls.length)/\e=[(0,.slice p2 l2.length cap2),(1,I4 (i2:Int)),(6,vo)]/\H=[so]) (by exact ⟨ls,i,p,cap,[],.slice none 0 0,[],V,⟨hv,hi,hs,by simp,Bj 1 _,by simp⟩,V,V⟩) Wp ?_;rintro _ _ _ ⟨l2,i2,p2,cap2,o,vo,so,rfl,⟨O,ek,J,B,I,j3⟩,rfl,rfl⟩;obtain ⟨qo,co,rfl⟩:=I.form;refine AQ<|Zq<|A1<|Zm Y<|Zv (Ac DH Y)<|Zv (Ci (n:=1) Y Y)<|A6<|Aw Y (fun h1=>?_) (fun h1=>?_);·
  rw [VQ (l:=l2) A0,Kx]at B;refine BD<|Zt<|Ar V<|Zt<|AV<|Zx<|A1<|Zm Y<|Zc [_] Y call193 Y V (Wz I A0) ?_;rintro _ _ ⟨_,⟨rfl,bn,U,rfl⟩,rfl⟩;refine A6<|A1<|Zm Y<|Za Y<|A5 Y<|AJ<|Kz ?_;refine DJ rfl results146 Y Y (by exact ⟨_,bn,rfl,BZ U (by rw [B,mA]) (by rw [B]),rfl⟩)
 have h9:2<=l2.length:=by omega
 have ax:=P8 h9;have gm:=Oz l2.length
 have g:(l2.take (Db l2.length)).length=Db l2.length:=by rw [CD];omega
 obtain ⟨p8,cu,e8,gq,af⟩:=id O;injection e8 with e81 e82 e83
 subst e81 e83;obtain ⟨g8,d9,cO,T8,j5,rfl,gy,dn⟩:=af 0 _ (BT A0);have X:=O.take (Db l2.length) A0
 have W:=O.drop (Db l2.length) ax;refine AC<|Zx<|A1<|Zm Y<|Zv (Ac DH Y)<|Xr [_] Y call192 Y V (mY l2.length h9 A0) ?_;refine A5 Y<|Zq<|BA (n:=8) (0::0::3::0::0::24::7::127::[]) 0 AF AF V<|A3 0 V (AO Y)<|A3 1 V (AO Y)<|A3 2 V (Bq DH Fm Y Y A0)<|A3 3 V (AO Y)<|A3 4 V (AO Y) ?_
 (refine Dn (D':=63) 5 (N8 DH Fm Y Y ?_ ?_) ?_;(focus (omega));(focus (omega)))
 refine A3 6 V (Aq Y)<|A3 7 V (Aq Y)<|Ag<|Zn [1,6,7,8,9] ?_;refine Zx<|Zq<|A1<|Zm Y<|Zm Y<|Zv (Gi Y Y)<|A6<|Aw Y (fun K=>?_) (fun K=>?_);·
  have K:¬i2<Db l2.length:=by omega
  refine Zg<|Zm Y<|Zm Y<|Zm Y<|Zm Y<|Yb Y Y<|Za Y<|Za Y<|A5 Y<|A1<|Zm Y<|Zm Y<|Xr [_] Y call191 Y rfl (Pp X (by rw [g];omega) (fun s h=>J s (On h)) Z zg) ?_;refine Ze (Ai (vs:=[_]) (cs:=[_]) DH Fm HS Y V rfl V rfl V)<|AG fun b1=>Ze (Ee (by_:=16) (sz:=1) (news:=[_]) DH (V:Tryz.prog.info? 9=some Tryz.t9) V rfl V rfl Y I Y Wo Wh B0 V Ft B1 A0 A0) ?_;rintro _ _ ⟨sw,G,rfl⟩;obtain ⟨gw,cw,rfl⟩:=G.form;refine AW Y<|Zn [1,6,8] ?_;refine Zx<|Zg<|Zm Y<|AW Y<|A8<|Zn [0,1,6] ?_;refine Aa (e':=[(0,_),(1,_),(6,_)]) (by exact ⟨l2.drop (Db l2.length),i2 -Db l2.length,_,_,o++[Dm (l2.take (Db l2.length))],_,_,(by rw [CH]),⟨(by rw [CH];exact W),by rw [CH];omega,fun s h=>J s (KB h),by rw [B,Oj h9 K,mB,CT];rfl,BZ G B4 (by simp;rfl),by rw [Bm,CH];simp;omega⟩,(by rw [CH]),rfl⟩)
 refine AC<|Zx<|A1<|Zm Y<|Zm Y<|Xr [_] Y call191 Y rfl (Pp W (by rw [CH];omega) (fun s h=>J s (KB h)) Z zg) ?_;refine Ze (Ai (vs:=[_]) (cs:=[_]) DH Fm HS Y V rfl V rfl V)<|AG fun b3=>Ze (Ee (by_:=16) (sz:=1) (news:=[_]) DH (V:Tryz.prog.info? 9=some Tryz.t9) V rfl V rfl Y I Y Wo Wh B0 V Ft B1 A0 A0) ?_;rintro _ _ ⟨sw,G,rfl⟩;obtain ⟨gw,cw,rfl⟩:=G.form;refine A5 Y<|Zg<|Zm Y<|AW Y<|A8<|Zn [0,1,6] ?_;refine Aa (e':=[(0,_),(1,_),(6,_)]) (by exact ⟨l2.take (Db l2.length),i2,_,_,o++[Dm (l2.drop (Db l2.length))],_,_,(by rw [g]),⟨(by rw [g];exact X),by rw [g];omega,fun s h=>J s (On h),by rw [B,Qc h9 A0,mB,CT];rfl,BZ G B4 (by simp;rfl),by rw [Bm,g];simp;omega⟩,(by rw [g]),rfl⟩)
def wx(s:Bs):Bool:=!decide (s.length=32)
def zV(s:Bs):Nat->Nat->List Bs->Option Bs
 |n,_,[]=>if n<=1 then some (ZH s)else none
 |n,i,x::rp=>if n<=1 then none else if i<Db n then(zV s (Db n) i rp).map (fun v=>JI v x)else(zV s (n -Db n) (i -Db n) rp).map (fun v=>JI x v)
def wa(root:Bs)(n i:Nat)(s:Bs)(pf:List Bs):Bool:=!(pf.any wx)&&decide (zV s n i pf.reverse=some root)
def QK(r:AR):Bs:=Hr [r.t,r.k]++Hr [r.v.a,r.v.b,r.v.c]
variable{r:AR}
theorem Wy(h:r.ok):(∀n∈[r.t,r.k],-4611686018427387903<=n/\n<=4611686018427387903)/\(∀n∈[r.v.a,r.v.b,r.v.c],-4611686018427387903<=n/\n<=4611686018427387903):=by
 obtain ⟨⟨m,h2,B⟩,G,I⟩:=h;unfold inV at m h2 B;constructor
 · intro n g
   simp only [DB,Pc,OR]at g;rcases g with rfl|rfl<;>omega
 · intro n g
   simp only [DB,Pc,OR]at g;rcases g with rfl|rfl|rfl<;>omega
theorem gN(h:r.ok):(QK r).length<=45:=by
 have g:=Hq _ (Wy h).1;have h2:=Hq _ (Wy h).2
 unfold QK;rw [Bm];simp only [E3,KK]at g h2;omega
theorem uJ(a b:Int):LW #[I4 a,I4 b] 0 [a,b]:=by
 intro i n h;rcases i with _|_|i
 · simp at h;subst h;rfl
 · simp at h;subst h;rfl
 · simp at h
theorem yD(r:AR):LW r.A71 2 [r.v.a,r.v.b,r.v.c]:=by
 intro i n h;rcases i with _|_|_|i
 · simp at h;subst h;rfl
 · simp at h;subst h;rfl
 · simp at h;subst h;rfl
 · simp at h
theorem kX(r:AR)(G:r.ok):BJ prog 188 #[.agg r.A71] [] (.tuple #[.string (str (QK r)),I4 0]):=by
 have g:=Wy G;have m:=Hq _ g.1
 have B:=Hq _ g.2;simp only [E3,KK]at m B;refine Se func188 ntmps188 [0] ?_;intro u R;refine A1<|Ze (Bx #[_,_,_,_,_])<|AG fun I=>Za Y<|A5 Y<|Zq<|A1<|Zo Wh (Pa #[_,_,_,_,_] D0 B3 Y)<|Xr [_] Y call195 Y V (Rz r) ?_;rw [DG G];refine Zv (Bt Y)<|A6<|AU Y (fun hv=>by cases hv)<|fun hv=>AC<|Zx<|Zq<|BA (n:=12) (0::1::0::4::15::31::0::64::255::511::1023::2047::[]) 304 AF AF V<|A3 0 V (AA (off:=0) G1 V rfl AE Y)<|BE 1 V AH Y<|A3 2 V (AA (off:=1) G1 V rfl AE Y)<|BE 3 V AH Y<|A3 6 V (AA (off:=2) G1 V rfl Dg Y)<|A3 7 V (Ii HM AE Y)<|Zz (l:=[4])<|B7 [false,false] [] V rfl (Ai (vs:=[_,_]) (cs:=[_,_]) DE AE HJ Y V rfl V rfl V) ?_ (fun _ _ h=>h.elim) Aj;rintro _ _ ⟨gb,rfl,rfl⟩;refine BW<|Yw 5 255 V (Zu [_] Y call235 Y V (qO gb 0 2 _ _ _ [r.t,r.k] (uJ r.t r.k) B4 g.1))<|Cp<|Yw 8 511 V (Zu [_] Y call235 Y V (qO I 2 3 _ _ _ [r.v.a,r.v.b,r.v.c] (yD r) B4 g.2))<|Cp<|A3 9 rfl (Ml Y Y (by rw [Gq,Gq];omega))<|A3 10 rfl (Aq Y)<|A3 11 rfl (Aq Y)<|Ag<|Zn [2,3] ?_;refine Zx<|AJ<|DJ rfl results188 Y Y (by exact ⟨by rw [RI];rfl,rfl⟩)
def BO(rs:List AR)(t:Int)(c:Nat):List AR:=Dr rs t c (-1000000000) 1000000000
theorem JH{rs:List AR}(g:BP rs)(t:Int)(c:Nat):(BO rs t c).length<=rs.length:=by
 unfold BO;rw [(ES rs t c _ _).length_eq];exact Of _ _
theorem Pw{rs:List AR}{t:Int}{c:Nat}{lo hi:Int}(h:r∈Dr rs t c lo hi):r∈rs:=(Fc.1 ((ES rs t c lo hi).mem_iff.1 h)).1
def PM(l:List AR):List Bs:=l.map QK
theorem Ib(l:List AR):(PM l).length=l.length:=B6 ..
theorem vC{l:List AR}{x:AR}(h:l[i]?=some x):(PM (l.take (i+1))).map G7=(PM (l.take i)).map G7++[.string (str (QK x))]:=by
 rw [Bn h];unfold PM;rw [C0,C0];rfl
def wE(l:List AR)(vr ve:A4)(sr se:List A9):Prop:=Bd 5 80 vr (l).length (Af (l)) sr/\Bd 1 9 ve l.length ((PM l).map G7) se
theorem TD(v:A4)(p:Int)(rs:List AR)(s:List A9)(hv:RF v p rs s)(hs:BP rs)(hn:rs.length<=2000)(af:∀r∈rs,r.ok)(t:Int)(c:Nat)(hc:c<=3):
 BR prog 139 #[v,I4 t,I4 (c:Int)] [s] (fun r H'=>∃vr K W J,r= .agg #[vr,K]/\wE (BO rs t c) vr K W J/\H'=[W,J,s]):=by
 have ek:=mL;have dn:=JH hs t c
 refine Se func139 ntmps139 [0,1,2] ?_;intro u R;refine A1<|Ze (Al k8 #[_,_])<|AG fun qb=>A6<|A1<|Zm Y<|Zm Y<|Zm Y<|Zc [_,_,_,_,_] Y call60 Y V (YE v p rs s hv t c (-1000000000) 1000000000 hc) ?_;rintro _ _ ⟨_,⟨W,G,rfl⟩,rfl⟩;change Bd 5 80 _ (BO rs t c).length (Af (BO rs t c)) W at G;obtain ⟨qr,cr,rfl⟩:=G.form;have X:=DY G A0
 obtain ⟨p9,bn,e9,gm,hg⟩:=id X;injection e9 with e91 e92 e93
 subst e91 e93;refine Zv (BM (vs:=[(0,_)]) (cs:=#[_,_]) Y (AY (pl:=#[(0,1),(1,1)]) k8 Q2 (fun _=>by kernel_rfl) V))<|Ze (Al k8 #[_,_])<|AG fun ob=>Xe (BL ec Y Y (by(simp [Value.oneCell',Value.cells];done)) Wu (by exact (rfl:_=(#[.slice qr (BO rs t c).length cr,.slice none 0 0]:AK))) FA B1 (by exact BC _))<|A6<|Zq<|A1<|Zh 0 Q2 rfl rfl DA Y<|Zl GP Y<|Zv (Ac C1 Y)<|Zm Y<|A6<|AQ<|Bc<|Zb [20,6,7,18,19] ?_;refine BI (e0:=[(20,_)]) (fun m e H=>∃(i:Nat) (K:A4) (J:List A9),m=(BO rs t c).length -i/\(i<=(BO rs t c).length/\Bd 1 9 K i ((PM ((BO rs t c).take i)).map G7) J)/\e=[(20,I4 (i:Int))]/\H=[[(ob,.cells #[.slice qr (BO rs t c).length cr,K] 247 (0,0))],J]) (by exact ⟨0,.slice none 0 0,[],V,⟨C7 _,Bj 1 _⟩,V,V⟩) Wp ?_;rintro _ _ _ ⟨i,K,J,rfl,⟨hi,B⟩,rfl,rfl⟩;obtain ⟨qe,ce,rfl⟩:=B.form;refine A1<|Zv (Ay Y Y)<|A6<|Zq<|Aw Y (fun U=>?_) (fun U=>?_);·
  obtain ⟨x,hx⟩:∃x,(BO rs t c)[i]?=some x:=⟨_,BT U⟩;obtain ⟨g,off,cur,T,zz,rfl,Z,cu,O⟩:=hg i x hx;have ax:=af x (Pw (DQ hx))
  refine AC<|Zx<|Zq<|AQ<|A1<|BU (Ae C1 B3 Y Y A0)<|CS (cs:=[(g,.cells cur T zz)]) (by simp [Z]) (AB (cs:=x.A71) D0 B3 Y A0 O) V rfl<|Ze (Al F0 #[_,_,_,_,_])<|AG fun xb=>Xe (Xw B3 x.A71)<|A6<|A1<|Zo Wh (Pa #[_,_,_,_,_] D0 B3 Y)<|Xr [_] Y call188 Y V (kX x ax)<|Zm Y<|Zd Y V<|Zd Y V<|Za Y<|A5 Y<|Zg<|Zh 1 Q2 V rfl I3 Y<|Zl LL Y<|Zm Y<|Ze (Ai (vs:=[_]) (cs:=[_]) DH Fm HS Y V rfl V rfl V)<|AG fun b4=>Ze (Ee (by_:=16) (sz:=1) (news:=[_]) DH (V:Tryz.prog.info? 9=some Tryz.t9) V rfl V rfl Y B Y Wo Wh B0 V Ft B1 A0 A0) ?_;rintro _ _ ⟨gq,I,rfl⟩;obtain ⟨d9,cO,rfl⟩:=I.form;refine Zh 1 Q2 V rfl I3 Y<|Xe (Zs I3 Y Y V (hc:=by exact (V:_=(#[.slice _ (BO rs t c).length cr,_]:AK))) (hi:=by(simp;done)))<|Z0<|Zn [6,7,18,19,20] ?_;refine A8<|Zx<|Zg<|Ya (n:=1) Y Y<|Zm Y<|Z0<|Zn [20,6,7,18,19] ?_;refine Aa (e':=[(20,_)]) (by exact ⟨i+1,_,_,rfl,⟨by omega,BZ I rfl (by rw [vC hx])⟩,rfl,rfl⟩)
 have ei:i=(BO rs t c).length:=by omega
 subst ei;rw [G3]at B;refine BD<|Zt<|Zt<|AV<|Zx<|A1<|Zo Wh (AB (cs:=#[_,_]) isAgg247 ec Y B5 B0)<|Xe (BL ec Y Y (by(simp [Value.oneCell',Value.cells];done)) Wu (by exact (rfl:_=(#[.slice qr (BO rs t c).length cr,.slice qe _ ce]:AK))) FA B1 (by exact BC _))<|A6<|AJ<|D6 rfl results139 Y Wh (Au isAgg247 ec Wn (rfl)) (by exact ⟨.slice qr _ cr,.slice qe _ ce,W,J,rfl,⟨G,B⟩,rfl⟩)
theorem Z6(v:A4)(p:Int)(rs:List AR)(s:List A9)(hv:RF v p rs s)(K:BP rs)(J:rs.length<=2000)(I:∀r∈rs,r.ok)(t:Int)(c:Nat)(hc:c<=3):
 BR prog 139 #[v,I4 t,I4 (c:Int)] [s] (fun r H'=>∃G B m g,r= .agg #[G,B]/\wE (BO rs t c) G B m g/\H'=[m++g,s]):=by
 refine Gx (TD v p rs s hv K J I t c hc) V ?_;rintro r H' ⟨G,B,m,g,rfl,h,rfl⟩;exact ⟨_,⟨G,B,m,g,V,h,V⟩,by simp⟩
def tcs:List (Nat×Nat):=(List.range 4).flatMap fun t=>(List.range 4).map fun c=>(t,c)
theorem u1:∀t,t<4->∀c,c<4->tcs[4*t+c]?=some (t,c):=by decide
def zY(rs:List AR)(x:Nat×Nat):Bs:=U3 ((BO rs (x.1:Int) x.2).length:Int)++Dm (PM (BO rs (x.1:Int) x.2))
def YA(rs:List AR):List Bs:=tcs.map (zY rs)
def ya(rs:List AR)(x:Nat×Nat)(vs:AK)(sx:List A9):Prop:=∃vr ve sr se,vs=#[.agg #[vr,ve]]/\wE (BO rs (x.1:Int) x.2) vr ve sr se/\sx=sr++se
theorem jh{l:List AR}(h:∀r∈l,r.ok):∀s∈PM l,s.length<=45:=by
 intro s m;obtain ⟨r,g,rfl⟩:=C6.1 m;exact gN (h r g)
theorem Z4(q:B8):BR prog 189 #[.pointer q] [] (fun r H'=>∃b,r= .func (.func 236) #[] #[I5 b]/\H'=[[(b,.cells #[.pointer q] 66 (0,0))]]):=by
 refine Se func189 ntmps189 [0] ?_;intro u R;refine A1<|Ze (Bx #[_])<|AG fun b=>A5 Y<|A1<|Zv (Bg (vs:=[]) (us:=[_]) Y Y)<|A5 Y<|AJ<|AP V results189 Y (by exact ⟨_,V,V⟩)
theorem Z5(v:A4)(p:Int)(rs:List AR)(s:List A9)(hv:RF v p rs s)(hs:BP rs)(hn:rs.length<=2000)(W:∀r∈rs,r.ok)(b:Nat):
 WP prog 236 #[I5 b] [[(b,.cells #[v] 66 (0,0))]] [s] (ya rs) tcs:=by
 have af:=mL;intro l J hy s0 hJ;refine Se func236 ntmps236 [0,1] ?_;intro u R;refine A1<|Zm Y<|A6<|AQ<|Zb [5,0,1] ?_;refine BI (e0:=[(5,_)]) (fun m e H=>∃(t:Nat) (s2:List A9),m=4 -t/\(t<=4/\J (tcs.take (4*t)) s2)/\e=[(5,I4 (t:Int))]/\H=[s2]) (by exact ⟨0,s0,V,⟨by omega,hJ⟩,V,V⟩) Wp ?_;rintro _ _ _ ⟨t,s2,rfl,⟨ht,g⟩,rfl,rfl⟩;refine A1<|Zv (Ay (n:=4) Y Y)<|A6<|Zq<|Aw Y (fun I=>?_) (fun I=>?_);·
  refine AC<|Zx<|Zq<|AQ<|A1<|Zm Y<|A5 Y<|A1<|Zm Y<|A6<|AQ<|Zb [8,0,1,3,5] ?_;refine BI (e0:=[(8,_)]) (fun m e H=>∃(c:Nat) (K:List A9),m=4 -c/\(c<=4/\J (tcs.take (4*t+c)) K)/\e=[(8,I4 (c:Int))]/\H=[K]) (by exact ⟨0,s2,V,⟨by omega,g⟩,V,V⟩) Wp ?_;rintro _ _ _ ⟨c,K,rfl,⟨hc,B⟩,rfl,rfl⟩;refine A1<|Zv (Ay (n:=4) Y Y)<|A6<|Zq<|Aw Y (fun G=>?_) (fun G=>?_);·
   have hx:=u1 t I c G;refine AC<|Zx<|Zq<|AQ<|A1<|Zm Y<|A5 Y<|A1<|Zm Y<|Zl isAgg66 Y<|Zm Y<|Zm Y<|Zc [_,_,_] Y call139 Y V (Z6 v p rs s hv hs hn W (t:Int) c A0) ?_;rintro _ _ ⟨_,⟨vr,ve,sr,se,rfl,hO,rfl⟩,rfl⟩;have X:=hy _ _ _ K #[.agg #[vr,ve]] (sr++se) (KA hx) B ⟨vr,ve,sr,se,rfl,hO,rfl⟩
   refine Ze (Fe (vs:=[_]) Y Y (X) Wp) ?_;rintro _ _ ⟨_,⟨s4,rfl,rfl,U⟩,rfl⟩;refine Zv (Bt Y)<|A6<|AU Y (fun Z=>by cases Z)<|fun Z=>AC<|A8<|Zx<|Zg<|Ya (n:=1) Y Y<|Zm Y<|Z0<|Zn [8,0,1,3,5] ?_;refine Aa (e':=[(8,_)]) (by exact ⟨c+1,s4,rfl,⟨by omega,by rw [<-fY,Bn hx];exact U⟩,rfl,rfl⟩)
  refine BD<|Zt<|Zt<|AV<|A8<|Zx<|Zg<|Ya (n:=1) Y Y<|Zm Y<|Z0<|Zn [5,0,1] ?_;refine Aa (e':=[(5,_)]) (by exact ⟨t+1,K,rfl,⟨by omega,by rw [Nat.mul_add,Mn];have O:c=4:=A0;subst O;exact B⟩,rfl,rfl⟩)
 have O:t=4:=by omega
 subst O;refine BD<|Zt<|Zt<|AV<|Ce V results236 (by exact ⟨s2,V,g⟩)
theorem V6(v:A4)(p:Int)(rs:List AR)(s:List A9)(hv:RF v p rs s)(hs:BP rs)(hn:rs.length<=2000)(O:∀r∈rs,r.ok)(W:AM)(zg:Nat×Nat):
 BR prog 145 #[v] [[(4,.cells (Ew.map Cz).toArray W zg)],s] (fun r H'=>∃so,Bd 1 9 r 16 ((YA rs).map G7) so/\H'=[so,[(4,.cells (Ew.map Cz).toArray W zg)],s]):=by
 have ic:=mL;obtain ⟨l5,kv,gq,ek,j5,rfl,d9⟩:=id hv;refine DU func145 V ntmps145 V ?_;intro u R;refine Zb [0] ?_;refine A1<|A5 Y<|A1<|Ze (Al cU #[_])<|AG fun ob=>A6<|Zq<|A1<|Zm Y<|Zc [_] Y call189 Y V (Z4 _) ?_;rintro _ _ ⟨_,⟨bb,rfl,rfl⟩,rfl⟩;refine A6<|AQ<|Zb [3,8] ?_;refine Bc<|Xl (H0:=_) (R:=_) (I:=(fun pre H=>∃Z s2,H=[[(ob,.cells #[Z] 52 (0,0))],s2,[(4,.cells (Ew.map Cz).toArray W zg)]]/\Bd 1 9 Z pre.length ((pre.map (zY rs)).map G7) s2)) (E:=fun x vs sx e Hn=>∃X J G,vs=#[.agg #[J,G]]/\e=[(4,I5 X),(9,.agg #[J,G])]/\Hn=[[(X,.cells #[J,G] 247 (0,0))]]) rfl Y call236 (Z5 _ p rs s hv hs hn O bb) (fun x vs sx h=>by obtain ⟨J,G,sr,se,rfl,_⟩:=h;rfl) rfl Wp (⟨_,[],rfl,Bj 1 _⟩) ?ha_2 ?hbd_2 ?hk_2
 case ha_2=>
  intro _ x vs sx _ _ g;obtain ⟨J,G,sr,se,rfl,K,rfl⟩:=g;refine Zg<|Ze (Al k8 #[_,_])<|AG fun X=>Xe (BL ec Y Y (by obtain ⟨q1,c1,rfl⟩:=K.1.form;obtain ⟨q2,c2,rfl⟩:=K.2.form;simp [Value.oneCell',Value.cells]) Wu (by exact (rfl:_=(#[J,G]:AK))) FA B1 (by exact BC _)) ?_;refine Z0<|L6 (e:=[(4,_),(9,_)]) (Hn:=[[(_,_)]]) ?_;exact ⟨_,_,_,V,V,V⟩
 case hbd_2=>
  intro l pre x post u vs sx e9 dn H1 R1 cO hI g af;obtain ⟨J,G,sr,se,rfl,K,rfl⟩:=g;obtain ⟨X,o8,l9,U,rfl,rfl⟩:=af;simp at U;obtain ⟨rfl,rfl⟩:=U;obtain ⟨Z,s2,rfl,m⟩:=hI;obtain ⟨qe,ce,rfl⟩:=K.2.form;obtain ⟨q2,c2,rfl⟩:=m.form;have cu:=congrArg List.length cO
  rw [Bm,E3,show tcs.length=16 from rfl]at cu;have j3:=JH hs (x.1:Int) x.2
  have bn:Eb (sr++se) (.slice qe (BO rs (x.1:Int) x.2).length ce) (PM (BO rs (x.1:Int) x.2)):=(He (BZ K.2 (Ib _).symm rfl) (by rw [Ib];omega)).mono (fun c h=>G2 _ h);refine AQ<|A1<|Zh 1 Q2 V rfl I3 Y<|Zl LL Y ?_;refine Zv (Ac DH Y)<|Xr [_] Y call190 Y V (Qb _ A0 A0) ?_;refine Zm Y<|Zd Y V<|Zd Y V<|Za Y<|A5 Y<|BA (n:=9) (0::0::0::4::12::30::62::127::255::[]) 464 AF AF V<|BE 0 V LL Y ?_;refine A3 1 V (AO Y)<|A3 2 V (AA (off:=1) Q2 V rfl I3 Y)<|BE 3 V LL Y ?_;refine Yz 4 12 31 [3,0] [false,true] [(0,(_,_))] rfl Y rfl rfl rfl rfl (Zu [_] Y call191 Y rfl (Pp bn (by rw [Ib];omega) (fun s h=>by have:=jh (fun r hr=>O r (Pw hr)) s h;omega) W zg))<|Cp<|BW<|A3 5 rfl (Ml Y Y (by rw [Gq,Gq,Lr];have:=PN ((BO rs (x.1:Int) x.2).length:Int) A0 A0;omega))<|Yz 6 62 127 [0] [true] [(0,(_,_))] rfl Y rfl rfl rfl rfl (Ai (vs:=[_]) (cs:=[_]) DH Fm HS Y rfl rfl rfl rfl rfl)<|AG fun b3=>BW<|Yw 7 255 V (Ee (by_:=16) (sz:=1) (news:=[_]) DH (V:Tryz.prog.info? 9=some Tryz.t9) V rfl V rfl Y m Y Wo Wh B0 V Ft B1 A0 A0) ?_;rintro _ _ ⟨l8,B,rfl⟩;obtain ⟨gy,gm,rfl⟩:=B.form;refine Yw 8 511 V (Zs I3 Y Y V (hi:=by(simp;done)))<|Cp<|Ag<|Zn [] ?_;refine A8<|Eg V (by exact ⟨_,_,V,BZ B B4 (by simp [zY,G7,RI])⟩)
 intro D1 H2 ax;obtain ⟨Z,s2,rfl,m⟩:=ax;refine Zn [3] ?_;refine A8<|Zx<|A1<|Zl LL Y ?_;refine A5 Y<|AJ<|Fv V (dU results145 Y) Wo (by exact ⟨s2,m,V⟩)
def Cg(pd:AR->Bool)(l:List AR):Nat:=(l.takeWhile (fun x=>!pd x)).length
theorem Gv(g:AR->Bool)(l:List AR):Cg g l<=l.length:=(List.takeWhile_sublist _).length_le
theorem Tv{g:AR->Bool}:∀{l:List AR} {i:Nat} {x:AR},l[i]?=some x->g x=true->(∀(j:Nat) (y:AR),j<i->l[j]?=some y->g y=false)->Cg g l=i
 |[],i,x,hx,_,_=>by simp at hx
 |z::l,0,x,hx,hp,_=>by
  simp only [aw,Wk]at hx;subst hx;simp [Cg,hp]
 |z::l,i+1,x,hx,hp,hno=>by
  simp only [ar]at hx;have h0:=hno 0 z A0 rfl
  have m:=Tv (l:=l) hx hp (fun j y G B=>hno (j+1) y A0 B);unfold Cg at m⊢;rw [PA,Ax (by simp [h0]),E3,m]
theorem Nt{m:AR->Bool}:∀{l:List AR},(∀(j:Nat) (y:AR),l[j]?=some y->m y=false)->Cg m l=l.length
 |[],_=>rfl
 |z::l,hno=>by
  have h0:=hno 0 z rfl;have g:=Nt (l:=l) (fun j y B=>hno (j+1) y B)
  unfold Cg at g⊢;rw [PA,Ax (by simp [h0]),E3,g,E3]
def R7(n len:Nat):Int:=if n<len then(n:Int)else-1
def geV(c:Nat)(lo:Int)(r:AR):Bool:=decide (lo<=Dh r c)
def gtV(c:Nat)(hi:Int)(r:AR):Bool:=decide (hi<Dh r c)
theorem ub(v lo:Int)(bl:Nat):BJ prog 143 #[I4 v,I5 bl] [[(bl,.cells #[I4 lo] 3 (0,0))]] (.bool (decide (lo<=v))):=by
 refine Se func143 ntmps143 [0,1] ?_;intro u R;refine A1<|A5 Y<|A1<|Zm Y<|Zl AH Y<|Zv (Gj Y Y)<|A5 Y<|AJ<|AP V results143 Y (by exact ⟨V,V⟩)
theorem wt(r:AR)(c:Nat)(hc:c<=3)(lo:Int)(m g bl:Nat):BJ prog 142 #[.agg r.A71,I5 m,I5 g] [[(m,.cells #[.func (.func 143) #[] #[I5 bl]] 86 (0,0))],[(g,.cells #[I4 (c:Int)] 3 (0,0))],[(bl,.cells #[I4 lo] 3 (0,0))]] (.bool (geV c lo r)):=by
 refine Se func142 ntmps142 [0,1,2] ?_;intro u R;refine A1<|Ze (Bx #[_,_,_,_,_])<|AG fun B=>A5 Y<|Zq<|BA (n:=6) (0::0::0::6::15::31::[]) 24 AF AF V<|BE 0 V isAgg86 Y ?_;refine FG 1 V Wh (Pa #[_,_,_,_,_] D0 B3 Y) ?_;refine BE 2 V AH Y ?_;refine Yz 3 6 15 [2,1,0] [false,false,true] [(0,(_,_))] V Y V rfl V rfl (Zu [_,_] Y SO Y V (OV r c hc))<|Cp<|BW<|Yw 4 31 V (Zu [_] Y call143 Y V (ub (Dh r c) lo bl))<|Cp<|A3 5 V (Aq Y)<|Ag<|Zx<|AJ<|AP V results142 Y (by exact ⟨V,V⟩)
variable{L:List AR}
theorem xd(hv:EB M v L)(hn:L.length<=1000000)(c:Nat)(hc:c<=3)(lo:Int)(O K bl:Nat):BJ prog 141 #[v,.func (.func 142) #[] #[I5 O,I5 K]] [[(O,.cells #[.func (.func 143) #[] #[I5 bl]] 86 (0,0))],[(K,.cells #[I4 (c:Int)] 3 (0,0))],[(bl,.cells #[I4 lo] 3 (0,0))],M] (I4 (R7 (Cg (geV c lo) L) L.length)):=by
 have ax:=mL;obtain ⟨p,cap,rfl,hl,hg⟩:=hv;refine Se func141 ntmps141 [0,1] ?_;intro u R;refine A1<|A5 Y<|Zq<|A1<|Zm Y<|Zv (Ac C1 Y)<|Zm Y<|A6<|AQ<|Zb [8,0,1,7] ?_;refine BI (e0:=[(8,_)]) (fun m e H=>∃(i:Nat),m=L.length -i/\(i<=L.length/\∀(j:Nat) (y:AR),j<i->L[j]?=some y->geV c lo y=false)/\e=[(8,I4 (i:Int))]/\H=[]) (by exact ⟨0,V,⟨C7 _,by intro j y hj;omega⟩,V,V⟩) Wp ?_;rintro _ _ _ ⟨i,rfl,⟨hi,I⟩,rfl,rfl⟩;refine A1<|Zv (Ay Y Y)<|A6<|Zq<|Aw Y (fun G=>?_) (fun G=>?_);·
  obtain ⟨x,Z⟩:∃x,L[i]?=some x:=⟨_,BT G⟩;obtain ⟨g,off,cur,T,zz,rfl,W,af,J⟩:=hg i x Z;refine AC<|Zx<|Zq<|AQ<|A1<|Zm Y<|A5 Y<|A1<|Zm Y<|Zm Y<|Zm Y<|BU (Ae C1 B3 Y Y A0)<|CS (cs:=[(g,.cells cur T zz)]) (by simp [W]) (AB (cs:=x.A71) D0 B3 Y A0 J) V rfl<|Xr [_] Y call142 Y V (wt x c hc lo O K bl)<|A6<|AU Y (fun X=>?_) (fun X=>?_);·
   refine A1<|Zm Y<|A5 Y<|AJ<|Ab<|Zt<|Zt<|Ab<|Zt<|AP rfl gS Y (by exact ⟨by rw [Tv Z X I];unfold R7;rw [Ax G],rfl⟩)
  refine AC<|A8<|Zx<|Zg<|Ya (n:=1) Y Y<|Zm Y<|Z0<|Zn [8,0,1,7] ?_;refine Aa (e':=[(8,_)]) (by exact ⟨i+1,rfl,⟨by omega,fun j y hj B=>by rcases FF j i with h9|h9;exact I j y h9 B;obtain rfl:j=i:=A0;rw [Z]at B;injection B with B;rw [<-B];exact X⟩,rfl,rfl⟩)
 have U:Cg (geV c lo) L=L.length:=Nt (fun j y B=>I j y (by have:=(C4.1 B).1;omega) B);refine BD<|Zt<|Zt<|AV<|Zx<|A1<|A5 Y<|AJ<|AP rfl gS Y (by exact ⟨by rw [U];unfold R7;rw [As A0],rfl⟩)
theorem ud{J X:A4}(hv:EB M J L)(W:L.length<=1000000)(c:Nat)(hc:c<=3)(lo:Int)(I m bl:Nat):BJ prog 140 #[.func (.func 143) #[] #[I5 bl],I5 I,I5 m] [[(I,.cells #[J,X] 247 (0,0))],[(m,.cells #[I4 (c:Int)] 3 (0,0))],[(bl,.cells #[I4 lo] 3 (0,0))],M] (I4 ((Cg (geV c lo) L:Nat):Int)):=by
 have U:=mL;obtain ⟨p,cap,rfl,hl,Z⟩:=id hv;have O:=Gv (geV c lo) L
 refine Se func140 ntmps140 [0,1,2] ?_;intro u R;refine A1<|Ze (Bx #[_])<|AG fun K=>A5 Y<|A1<|Zh 0 Q2 V rfl DA Y<|Zl GP Y<|Zv (Bg (vs:=[]) (us:=[_,_]) Y Y)<|Xr [_,_] Y call141 Y V (xd hv W c hc lo K m bl)<|A5 Y<|Zq<|A1<|Zm Y<|Zv (EH Y Y)<|A6<|Aw Y (fun g=>?_) (fun g=>?_);·
  have B:Cg (geV c lo) L=L.length:=by
   rcases FF (Cg (geV c lo) L) L.length with h9|h9
   · unfold R7 at g;rw [Ax h9]at g;omega
   · omega
  refine A1<|Zh 0 Q2 V rfl DA Y<|Zl GP Y<|Zv (Ac C1 Y)<|AW Y<|Zn [4] ?_;refine Zx<|AJ<|Zt<|AP rfl results140 Y (by exact ⟨by rw [B],rfl⟩)
 have G:Cg (geV c lo) L<L.length:=by
  rcases FF (Cg (geV c lo) L) L.length with h9|h9
  · exact h9
  · unfold R7 at g;rw [As A0]at g;omega
 refine AC<|Zx<|A1<|Zm Y<|A5 Y<|AJ<|AP rfl results140 Y (by exact ⟨by unfold R7;rw [Ax G],rfl⟩)
theorem ua(v lo:Int)(bl:Nat):BJ prog 144 #[I4 v,I5 bl] [[(bl,.cells #[I4 lo] 3 (0,0))]] (.bool (decide (lo<v))):=by
 refine Se func144 ntmps144 [0,1] ?_;intro u R;refine A1<|A5 Y<|A1<|Zm Y<|Zl AH Y<|Zv (Ed Y Y)<|A5 Y<|AJ<|AP V results144 Y (by exact ⟨V,V⟩)
theorem wk(r:AR)(c:Nat)(hc:c<=3)(lo:Int)(m g bl:Nat):BJ prog 142 #[.agg r.A71,I5 m,I5 g] [[(m,.cells #[.func (.func 144) #[] #[I5 bl]] 86 (0,0))],[(g,.cells #[I4 (c:Int)] 3 (0,0))],[(bl,.cells #[I4 lo] 3 (0,0))]] (.bool (gtV c lo r)):=by
 refine Se func142 ntmps142 [0,1,2] ?_;intro u R;refine A1<|Ze (Bx #[_,_,_,_,_])<|AG fun B=>A5 Y<|Zq<|BA (n:=6) (0::0::0::6::15::31::[]) 24 AF AF V<|BE 0 V isAgg86 Y ?_;refine FG 1 V Wh (Pa #[_,_,_,_,_] D0 B3 Y) ?_;refine BE 2 V AH Y ?_;refine Yz 3 6 15 [2,1,0] [false,false,true] [(0,(_,_))] V Y V rfl V rfl (Zu [_,_] Y SO Y V (OV r c hc))<|Cp<|BW<|Yw 4 31 V (Zu [_] Y call144 Y V (ua (Dh r c) lo bl))<|Cp<|A3 5 V (Aq Y)<|Ag<|Zx<|AJ<|AP V results142 Y (by exact ⟨V,V⟩)
theorem xT(hv:EB M v L)(hn:L.length<=1000000)(c:Nat)(hc:c<=3)(lo:Int)(O K bl:Nat):BJ prog 141 #[v,.func (.func 142) #[] #[I5 O,I5 K]] [[(O,.cells #[.func (.func 144) #[] #[I5 bl]] 86 (0,0))],[(K,.cells #[I4 (c:Int)] 3 (0,0))],[(bl,.cells #[I4 lo] 3 (0,0))],M] (I4 (R7 (Cg (gtV c lo) L) L.length)):=by
 have ax:=mL;obtain ⟨p,cap,rfl,hl,hg⟩:=hv;refine Se func141 ntmps141 [0,1] ?_;intro u R;refine A1<|A5 Y<|Zq<|A1<|Zm Y<|Zv (Ac C1 Y)<|Zm Y<|A6<|AQ<|Zb [8,0,1,7] ?_;refine BI (e0:=[(8,_)]) (fun m e H=>∃(i:Nat),m=L.length -i/\(i<=L.length/\∀(j:Nat) (y:AR),j<i->L[j]?=some y->gtV c lo y=false)/\e=[(8,I4 (i:Int))]/\H=[]) (by exact ⟨0,V,⟨C7 _,by intro j y hj;omega⟩,V,V⟩) Wp ?_;rintro _ _ _ ⟨i,rfl,⟨hi,I⟩,rfl,rfl⟩;refine A1<|Zv (Ay Y Y)<|A6<|Zq<|Aw Y (fun G=>?_) (fun G=>?_);·
  obtain ⟨x,Z⟩:∃x,L[i]?=some x:=⟨_,BT G⟩;obtain ⟨g,off,cur,T,zz,rfl,W,af,J⟩:=hg i x Z;refine AC<|Zx<|Zq<|AQ<|A1<|Zm Y<|A5 Y<|A1<|Zm Y<|Zm Y<|Zm Y<|BU (Ae C1 B3 Y Y A0)<|CS (cs:=[(g,.cells cur T zz)]) (by simp [W]) (AB (cs:=x.A71) D0 B3 Y A0 J) V rfl<|Xr [_] Y call142 Y V (wk x c hc lo O K bl)<|A6<|AU Y (fun X=>?_) (fun X=>?_);·
   refine A1<|Zm Y<|A5 Y<|AJ<|Ab<|Zt<|Zt<|Ab<|Zt<|AP rfl gS Y (by exact ⟨by rw [Tv Z X I];unfold R7;rw [Ax G],rfl⟩)
  refine AC<|A8<|Zx<|Zg<|Ya (n:=1) Y Y<|Zm Y<|Z0<|Zn [8,0,1,7] ?_;refine Aa (e':=[(8,_)]) (by exact ⟨i+1,rfl,⟨by omega,fun j y hj B=>by rcases FF j i with h9|h9;exact I j y h9 B;obtain rfl:j=i:=A0;rw [Z]at B;injection B with B;rw [<-B];exact X⟩,rfl,rfl⟩)
 have U:Cg (gtV c lo) L=L.length:=Nt (fun j y B=>I j y (by have:=(C4.1 B).1;omega) B);refine BD<|Zt<|Zt<|AV<|Zx<|A1<|A5 Y<|AJ<|AP rfl gS Y (by exact ⟨by rw [U];unfold R7;rw [As A0],rfl⟩)
theorem uc{J X:A4}(hv:EB M J L)(W:L.length<=1000000)(c:Nat)(hc:c<=3)(lo:Int)(I m bl:Nat):BJ prog 140 #[.func (.func 144) #[] #[I5 bl],I5 I,I5 m] [[(I,.cells #[J,X] 247 (0,0))],[(m,.cells #[I4 (c:Int)] 3 (0,0))],[(bl,.cells #[I4 lo] 3 (0,0))],M] (I4 ((Cg (gtV c lo) L:Nat):Int)):=by
 have U:=mL;obtain ⟨p,cap,rfl,hl,Z⟩:=id hv;have O:=Gv (gtV c lo) L
 refine Se func140 ntmps140 [0,1,2] ?_;intro u R;refine A1<|Ze (Bx #[_])<|AG fun K=>A5 Y<|A1<|Zh 0 Q2 V rfl DA Y<|Zl GP Y<|Zv (Bg (vs:=[]) (us:=[_,_]) Y Y)<|Xr [_,_] Y call141 Y V (xT hv W c hc lo K m bl)<|A5 Y<|Zq<|A1<|Zm Y<|Zv (EH Y Y)<|A6<|Aw Y (fun g=>?_) (fun g=>?_);·
  have B:Cg (gtV c lo) L=L.length:=by
   rcases FF (Cg (gtV c lo) L) L.length with h9|h9
   · unfold R7 at g;rw [Ax h9]at g;omega
   · omega
  refine A1<|Zh 0 Q2 V rfl DA Y<|Zl GP Y<|Zv (Ac C1 Y)<|AW Y<|Zn [4] ?_;refine Zx<|AJ<|Zt<|AP rfl results140 Y (by exact ⟨by rw [B],rfl⟩)
 have G:Cg (gtV c lo) L<L.length:=by
  rcases FF (Cg (gtV c lo) L) L.length with h9|h9
  · exact h9
  · unfold R7 at g;rw [As A0]at g;omega
 refine AC<|Zx<|A1<|Zm Y<|A5 Y<|AJ<|AP rfl results140 Y (by exact ⟨by unfold R7;rw [Ax G],rfl⟩)
theorem Qn(t c:Int):BJ prog 138 #[I4 t,I4 c] [] (.bool (decide ((0<=t/\t<4)/\0<=c/\c<4))):=by
 refine Se func138 ntmps138 [0,1] ?_;intro u R;refine A1<|A5 Y<|A1<|Zm Y<|Zv (Gj Y Y)<|Zm Y<|Ao (t:=7) Y V (fun g=>?_) (fun g=>?_);·
  refine Zf Y Y<|Yg (EH Y Y)<|Zv (AX Y Y)<|Zm Y<|Ao (t:=11) Y V (fun h2=>?_) (fun h2=>?_);·
   refine Zf Y Y<|Yg (Gj Y Y)<|Zv (AX Y Y)<|Zm Y<|Ao (t:=15) Y V (fun m=>?_) (fun m=>?_);·
    refine Zf Y Y<|Yg (EH Y Y)<|Zv (AX Y Y)<|AW Y<|Zn [4] ?_;refine Zx<|AJ<|AP V results138 Y (by exact ⟨by exact congrArg Value.bool (decide_eq_decide.2 A0),V⟩)
   refine A7 Y V<|A7 Y V<|Zv (AL Y Y)<|AW Y<|Zn [4] ?_;refine Zx<|AJ<|AP V results138 Y (by exact ⟨by exact congrArg Value.bool (Cl A0).symm,V⟩)
  refine A7 Y V<|A7 Y V<|Zv (AL Y Y)<|Zm Y<|A7 Y V<|A7 Y V<|Zv (AL Y Y)<|AW Y<|Zn [4] ?_;refine Zx<|AJ<|AP V results138 Y (by exact ⟨by exact congrArg Value.bool (Cl A0).symm,V⟩)
 refine A7 Y V<|A7 Y V<|Zv (AL Y Y)<|Zm Y<|A7 Y V<|A7 Y V<|Zv (AL Y Y)<|Zm Y<|A7 Y V<|A7 Y V<|Zv (AL Y Y)<|AW Y<|Zn [4] ?_;refine Zx<|AJ<|AP V results138 Y (by exact ⟨by exact congrArg Value.bool (Cl A0).symm,V⟩)
structure RP where
 tb:Int
 cl:Int
 lo:Int
 hi:Int
 ct:Int
 fi:Int
 rows:List AR
 paths:List (List Bs)
 roots:List Bs
deriving DecidableEq
def CQ(L:List AR)(c:Nat)(lo:Int):Nat:=Cg (geV c lo) L -1
def toT(L:List AR)(c:Nat)(hi:Int):Nat:=min (Cg (gtV c hi) L+1) L.length
def Jv(L:List AR)(f k:Nat):List (List Bs):=(List.range k).map fun j=>FZ (PM L) (f+j)
def Et(rs:List AR)(t c:Nat)(lo hi:Int):RP:=
 ⟨t,c,lo,hi,(BO rs (t:Int) c).length,(CQ (BO rs (t:Int) c) c lo:Nat),((BO rs (t:Int) c).drop (CQ (BO rs (t:Int) c) c lo)).take (toT (BO rs (t:Int) c) c hi -CQ (BO rs (t:Int) c) c lo),
   Jv (BO rs (t:Int) c) (CQ (BO rs (t:Int) c) c lo) (toT (BO rs (t:Int) c) c hi -CQ (BO rs (t:Int) c) c lo),YA rs⟩
def LV(M:List A9)(pvs:List A4)(ps:List (List Bs)):Prop:=pvs.length=ps.length/\∀(i:Nat) (v:A4) (l:List Bs),pvs[i]?=some v->ps[i]?=some l->Eb M v l
theorem VU(M:List A9):LV M [] []:=⟨rfl,by intro i v l h;simp at h⟩
theorem LV.snoc{B:List A9}{g:List A4}{ps:List (List Bs)}(h:LV M g ps)(hv:Eb B v l)(I:∀c∈M,c∈B):LV B (g++[v]) (ps++[l]):=by
 obtain ⟨G,h2⟩:=h;refine ⟨by rw [Bm,Bm,G];rfl,?_⟩;intro i w k hi m;rcases FF i g.length with h9|h9
 · rw [Wa h9]at hi
   rw [Wa A0]at m;exact (h2 i w k hi m).mono I
 · rw [RM h9]at hi
   rw [RM A0]at m;rw [G]at hi;cases h:i -ps.length with
   |zero=>rw [h]at hi m;simp at hi m;rw [<-hi,<-m];exact hv
   |succ n=>rw [h]at hi;simp at hi
theorem Yo(L:List AR)(f k:Nat):Jv L f (k+1)=Jv L f k++[FZ (PM L) (f+k)]:=by unfold Jv;rw [j7,C0];rfl
theorem eF(L:List AR)(f k:Nat):(Jv L f k).length=k:=by unfold Jv;rw [B6,Wg]
theorem xO{n:Nat}{xs:List A4}{s:List A9}(h:Bd 1 e v n xs s):n<=maxLen:=by
 obtain ⟨_,⟨_,h0,_⟩|⟨_,_,_,_,_,_,g,h2,_⟩⟩:=h;· omega
 · omega
theorem Y9(rs:List AR):(YA rs).length=16:=by unfold YA;rw [B6];rfl
set_option maxHeartbeats 4000000 in
theorem df(v:A4)(p:Int)(rs:List AR)(s:List A9)(hv:RF v p rs s)(hs:BP rs)(hn:rs.length<=2000)(ax:∀r∈rs,r.ok)(t c:Nat)(ht:t<=3)(hc:c<=3)(lo hi:Int)(qw:lo<=hi)(Tg:AM)(zg:Nat×Nat):
 BR prog 90 #[v,I4 (t:Int),I4 (c:Int),I4 lo,I4 hi] [[(4,.cells (Ew.map Cz).toArray Tg zg)],s] (fun r H'=>∃vr vp vt U sp J W so,r= .tuple #[.agg #[I4 (t:Int),I4 (c:Int),I4 lo,I4 hi,I4 (((BO rs (t:Int) c).length:Nat):Int),I4 (((CQ (BO rs (t:Int) c) c lo):Nat):Int),vr,vp,vt],I4 0]/\Bd 5 80 vr (((BO rs (t:Int) c).drop (CQ (BO rs (t:Int) c) c lo)).take ((toT (BO rs (t:Int) c) c hi) -(CQ (BO rs (t:Int) c) c lo))).length (Af (((BO rs (t:Int) c).drop (CQ (BO rs (t:Int) c) c lo)).take ((toT (BO rs (t:Int) c) c hi) -(CQ (BO rs (t:Int) c) c lo)))) U/\Bd 1 52 vp ((toT (BO rs (t:Int) c) c hi) -(CQ (BO rs (t:Int) c) c lo)) J sp/\LV W J (Jv (BO rs (t:Int) c) (CQ (BO rs (t:Int) c) c lo) ((toT (BO rs (t:Int) c) c hi) -(CQ (BO rs (t:Int) c) c lo)))/\Bd 1 9 vt 16 ((YA rs).map G7) so/\H'=[U,sp,W,so,[(4,.cells (Ew.map Cz).toArray Tg zg)],s]):=by
 have r9:=mL;obtain ⟨sO,sM,qa,q9,sJ,rfl,pq⟩:=id hv;have qz:=JH hs (t:Int) c
 have qj:=Gv (geV c lo) (BO rs (t:Int) c);have ql:=Gv (gtV c hi) (BO rs (t:Int) c)
 have qo:(CQ (BO rs (t:Int) c) c lo)=Cg (geV c lo) (BO rs (t:Int) c) -1:=rfl;have sw:(toT (BO rs (t:Int) c) c hi)=min (Cg (gtV c hi) (BO rs (t:Int) c)+1) (BO rs (t:Int) c).length:=rfl
 refine Se func90 ntmps90 [0,1,2,3,4] ?_;intro u R;refine A1<|Ze (Bx #[_])<|AG fun bc=>Ze (Bx #[_])<|AG fun bl=>Ze (Bx #[_])<|AG fun bh=>Ze (Al cT #[_,_,_,_,_,_,_,_,_])<|AG fun qb=>A5 Y<|Zq<|AQ<|A1<|Zm Y<|Zv (Bh lA Y Y)<|A5 Y<|AU Y (fun h1=>by cases h1)<|fun h1=>A1<|Zm Y<|Zl AH Y ?_;refine Xr [_,_] Y call138 Y V (Qn (t:Int) (c:Int)) ?_;rw [DG (show((0<=(t:Int)/\(t:Int)<4)/\0<=(c:Int)/\(c:Int)<4) by omega)];refine Zv (Bt Y)<|Zm Y<|Ah (t:=29) Y V (fun h2=>by cases h2)<|fun h2=>Yl AH Y ?_;refine Yl AH Y ?_;refine Yg (Ed Y Y)<|Zv (AL Y Y)<|AW Y<|Zn [0,1,7,8,9,10,24] ?_;refine Zx<|Aw Y (fun h3=>by omega)<|fun h3=>AC<|A8<|Zx<|A1<|Zm Y<|Zm Y<|Zl AH Y ?_;refine Zc [_,_,_] Y call139 Y V (TD _ p rs s hv hs hn ax (t:Int) c hc) ?_;rintro _ _ ⟨_,⟨vr,ve,sr,se,rfl,hO,rfl⟩,rfl⟩;obtain ⟨qr,cr,rfl⟩:=hO.1.form;obtain ⟨qe,ce,rfl⟩:=hO.2.form;have cu:=DY hO.1 A0
 have l9:Eb se (.slice qe (BO rs (t:Int) c).length ce) (PM (BO rs (t:Int) c)):=He (BZ hO.2 (Ib _).symm rfl) (by rw [Ib];omega);obtain ⟨p9,pg,e9,sj,hg⟩:=id cu;injection e9 with e91 e92 e93
 subst e91 e93;refine Ze (Al k8 #[_,_])<|AG fun ob=>Xe (Xw ec #[.slice qr (BO rs (t:Int) c).length cr,.slice qe (BO rs (t:Int) c).length ce]) ?_;refine A6<|A1<|Zv (Bg (vs:=[]) (us:=[_,_]) Y Y)<|A5 Y<|A1<|Zm Y<|Zv (Bg (vs:=[]) (us:=[_]) Y Y)<|Xr [_] Y call140 Y V (ud cu A0 c hc lo ob bc bl) ?_
 (refine BU (FP Y Y (IntWalk.i64_in _ ?_)) ?_;(focus (omega)))
 refine Zv (eZ Y Y)<|AW Y<|Zn [0,1,7,8,9,10,12,13,14] ?_;refine Zx<|Zq<|BA (n:=9) (0::0::3::7::0::16::48::127::255::[]) 4 AF AF V<|A3 0 V (AO Y)<|A3 1 V (Bg (vs:=[]) (us:=[_]) Y Y)<|A3 4 V (AA (off:=0) Q2 V rfl DA Y)<|BE 5 V GP Y ?_;refine A3 6 V (Ac C1 Y)<|Zz (l:=[2])<|B7 [true] [(5,(_,_))] V rfl (Zu [_] Y call140 Y V (uc cu A0 c hc hi ob bc bh)) ?_ (fun _ _ h=>h.elim) Aj;rintro _ _ ⟨rfl,rfl⟩;refine BW<|A3 3 V (EA (n:=1) Y Y A0)<|A3 7 V (Q6 Y Y)<|A3 8 V (Aq Y)<|Ag<|Zx<|Zb [0,1,7,8,9,10,12,14,15] ?_;refine CW (e0:=[(0,_),(1,_),(7,_),(8,_),(9,_)]) (H0:=[]) (fun e H=>∃(pb:Nat) (qt:B8) (ct:Nat) (so:List A9),(Bd 1 9 (.slice qt 16 ct) 16 ((YA rs).map G7) so)/\e=[(16,I5 pb)]/\H=[[(pb,.cells #[I4 (t:Int),I4 (c:Int),I4 lo,I4 hi,I4 (((BO rs (t:Int) c).length:Nat):Int),I4 (((CQ (BO rs (t:Int) c) c lo):Nat):Int),.slice none 0 0,.slice none 0 0,.slice qt 16 ct] 171 (0,0))],so]) Wp ?hx_2 ?hy_2
 case hx_2=>
  refine BA (n:=13) (0::0::0::0::0::16::48::0::0::256::1023::0::4095::[]) 6656 AF AF V<|A3 0 V (AO Y)<|BE 1 V AH Y ?_;refine BE 2 V AH Y ?_;refine BE 3 V AH Y ?_;refine A3 4 V (AA (off:=0) Q2 V rfl DA Y)<|BE 5 V GP Y ?_;refine A3 6 V (Ac C1 Y)<|A3 7 V (AO Y)<|A3 8 V (AO Y)<|Zz (l:=[9,11])<|B7 [true,true,true,true] [(5,(_,_)),(3,(_,_)),(2,(_,_)),(1,(_,_))] V rfl (Zw [_] Y call145 Y V (V6 _ p rs s hv hs hn ax Tg zg)) ?_ Bv ?_;·
   rintro _ _ ⟨_,⟨so,O,rfl⟩,rfl⟩;refine ⟨Zk (Zk (Zk (Zk (AZ)))),?_⟩;obtain ⟨qt,ct,rfl⟩:=O.form;refine A3 10 V (BM (vs:=[(0,I4 (t:Int)),(1,I4 (c:Int)),(2,I4 lo),(3,I4 hi),(4,I4 (((BO rs (t:Int) c).length:Nat):Int)),(5,I4 (((CQ (BO rs (t:Int) c) c lo):Nat):Int)),(8,.slice qt 16 ct)]) (cs:=#[I4 (t:Int),I4 (c:Int),I4 lo,I4 hi,I4 (((BO rs (t:Int) c).length:Nat):Int),I4 (((CQ (BO rs (t:Int) c) c lo):Nat):Int),.slice none 0 0,.slice none 0 0,.slice qt 16 ct]) Y (AY (pl:=#[(0,1),(1,1),(2,1),(3,1),(4,1),(5,1),(6,1),(7,1),(8,1)]) cT E4 (fun _=>by kernel_rfl) AF))<|Yz 11 0 4095 [5,3,2,1] [true,true,true,true] [(5,(_,_)),(3,(_,_)),(2,(_,_)),(1,(_,_))] V Y V rfl V rfl (Al cT #[_,_,_,_,_,_,_,_,_])<|AG fun pb=>BW<|Yw 12 8191 V (Xw Mu #[I4 (t:Int),I4 (c:Int),I4 lo,I4 hi,I4 (((BO rs (t:Int) c).length:Nat):Int),I4 (((CQ (BO rs (t:Int) c) c lo):Nat):Int),.slice none 0 0,.slice none 0 0,.slice qt 16 ct])<|Cp<|Ag<|Zn [16,10,12,14,15] ?_;refine Av (e':=[(16,_)]) (by exact ⟨pb,qt,ct,so,O,V,V⟩)
  refine B7 [true,true,true,true] [(5,(_,_)),(3,(_,_)),(2,(_,_)),(1,(_,_))] V rfl (Al cT #[_,_,_,_,_,_,_,_,_]) ?_ (fun _ _ h=>h.elim) Aj;rintro _ _ ⟨pb,rfl,rfl⟩;refine BW<|Zz (l:=[9])<|B7 [true,true,true,true] [(5,(_,_)),(3,(_,_)),(2,(_,_)),(1,(_,_))] V rfl (Zw [_] Y call145 Y V (V6 _ p rs s hv hs hn ax Tg zg)) ?_ Bv Aj;rintro _ _ ⟨_,⟨so,O,rfl⟩,rfl⟩;refine ⟨Zk (Zk (Zk (Zk (AZ)))),?_⟩;obtain ⟨qt,ct,rfl⟩:=O.form;refine A3 10 V (BM (vs:=[(0,I4 (t:Int)),(1,I4 (c:Int)),(2,I4 lo),(3,I4 hi),(4,I4 (((BO rs (t:Int) c).length:Nat):Int)),(5,I4 (((CQ (BO rs (t:Int) c) c lo):Nat):Int)),(8,.slice qt 16 ct)]) (cs:=#[I4 (t:Int),I4 (c:Int),I4 lo,I4 hi,I4 (((BO rs (t:Int) c).length:Nat):Int),I4 (((CQ (BO rs (t:Int) c) c lo):Nat):Int),.slice none 0 0,.slice none 0 0,.slice qt 16 ct]) Y (AY (pl:=#[(0,1),(1,1),(2,1),(3,1),(4,1),(5,1),(6,1),(7,1),(8,1)]) cT E4 (fun _=>by kernel_rfl) AF))<|Yw 12 8191 V (Xw Mu #[I4 (t:Int),I4 (c:Int),I4 lo,I4 hi,I4 (((BO rs (t:Int) c).length:Nat):Int),I4 (((CQ (BO rs (t:Int) c) c lo):Nat):Int),.slice none 0 0,.slice none 0 0,.slice qt 16 ct])<|Cp<|Ag<|Zn [16,10,12,14,15] ?_;refine Av (e':=[(16,_)]) (by exact ⟨pb,qt,ct,so,O,V,V⟩)
 rintro _ _ ⟨pb,qt,ct,so,O,rfl,rfl⟩;refine Zq<|A1<|Zm Y<|A5 Y<|AQ<|Bc<|Bc<|Bc<|Zb [17,10,12,15,16] ?_;refine BI (e0:=[(17,_)]) (fun m e H=>∃(k:Nat) (dn:A4) (U:List A9) (vp:A4) (sp:List A9) (J:List A4) (W:List A9),m=(toT (BO rs (t:Int) c) c hi) -(CQ (BO rs (t:Int) c) c lo) -k/\(k<=(toT (BO rs (t:Int) c) c hi) -(CQ (BO rs (t:Int) c) c lo)/\Bd 5 80 dn k (Af (((BO rs (t:Int) c).drop (CQ (BO rs (t:Int) c) c lo)).take k)) U/\Bd 1 52 vp k J sp/\LV W J (Jv (BO rs (t:Int) c) (CQ (BO rs (t:Int) c) c lo) k))/\e=[(17,I4 (((CQ (BO rs (t:Int) c) c lo)+k:Nat):Int))]/\H=[[(pb,.cells #[I4 (t:Int),I4 (c:Int),I4 lo,I4 hi,I4 (((BO rs (t:Int) c).length:Nat):Int),I4 (((CQ (BO rs (t:Int) c) c lo):Nat):Int),dn,vp,.slice qt 16 ct] 171 (0,0))],U,sp,W]) (by exact ⟨0,.slice none 0 0,[],.slice none 0 0,[],[],[],rfl,⟨C7 _,by rw [IF];exact Bj 5 _,Bj 1 _,VU _⟩,rfl,rfl⟩) Wp ?_;rintro _ _ _ ⟨k,dn,U,vp,sp,J,W,rfl,⟨hk,Z,X,hP⟩,rfl,rfl⟩;obtain ⟨q2,c2,rfl⟩:=Z.form;obtain ⟨q3,c3,rfl⟩:=X.form;refine Zq<|A1<|Zm Y<|Zm Y<|Zv (Ay Y Y)<|A6<|Aw Y (fun o8=>?_) (fun o8=>?_);·
  obtain ⟨x,hx⟩:∃x,(BO rs (t:Int) c)[(CQ (BO rs (t:Int) c) c lo)+k]?=some x:=⟨_,BT A0⟩;obtain ⟨g,off,cur,T,zz,rfl,o9,pz,j5⟩:=hg _ x hx;have d9:((BO rs (t:Int) c).drop (CQ (BO rs (t:Int) c) c lo))[k]?=some x:=by rw [RW];exact hx
  refine AC<|Zx<|Zq<|AQ<|A1<|Zh 1 Q2 V rfl I3 Y<|Zl LL Y ?_;refine Zm Y<|Zc [_,_] Y call146 Y rfl (dh l9 (by rw [Ib];omega) (fun s h=>by have:=jh (fun r hr=>ax r (Pw hr)) s h;omega) ((CQ (BO rs (t:Int) c) c lo)+k) (by rw [Ib];omega) Tg zg) ?_;rintro _ _ ⟨_,⟨p8,I,rfl,K,rfl⟩,rfl⟩;have cO:(FZ (PM (BO rs (t:Int) c)) ((CQ (BO rs (t:Int) c) c lo)+k)).length<=maxLen:=xO K
  have l8:=He K cO;have bn:=Yo (BO rs (t:Int) c) (CQ (BO rs (t:Int) c) c lo) k▸hP.snoc (l8.mono (fun c h=>Ek W h)) (fun c h=>G2 I h)
  obtain ⟨qx,cx,rfl⟩:=K.form;refine Zm Y<|Zd Y V<|Zd Y V<|Za Y<|A5 Y<|Cb (s1:=I) (s2:=W) Wo Wo ?_;refine BA (n:=18) (0::1::0::4::0::28::60::124::255::0::512::0::2048::8191::2047::32767::65535::131071::[]) 176512 AF AF V<|A3 0 V (AA (off:=6) E4 V rfl DA Y)<|BE 1 V GP Y ?_;refine A3 2 V (AA (off:=0) Q2 V rfl DA Y)<|BE 3 V GP Y ?_;refine A3 4 V (AO Y)<|A3 5 V (Ae C1 B3 Y Y A0)<|Cc (b:=g) (x:= .cells cur T zz) (D':=127) 6 V rfl V (by simp [o9]) (AB (cs:=x.A71) D0 B3 Y A0 j5) ?_;refine A3 9 V (AA (off:=7) E4 V rfl S8 Y)<|BE 10 V isAgg169 Y ?_;refine A3 11 V (AO Y)<|Zz (l:=[7,12])<|B7 [true,false,false,true] [(10,(_,_)),(1,(_,_))] V rfl (Ai (vs:=[_]) (cs:=[_,_,_,_,_]) C1 B3 F0 Y V rfl V rfl V) ?_ (fun _ _ h=>h.elim) ?_;·
   rintro _ _ ⟨af,rfl,rfl⟩;refine BW<|Zz (l:=[8,12])<|B7 [true,false] [(10,(_,_))] V rfl (BV (by_:=40) (sz:=5) C1 (V:Tryz.prog.info? 80=some Tryz.t80) V rfl V rfl Y (Z) Y (Dl 5 af 1 1 80 (0,0) [I4 x.t,I4 x.k,I4 x.v.a,I4 x.v.b,I4 x.v.c] V) Wo Wo Ft A0 A0) ?hk_13 (fun _ _ h=>h.elim) ?hl_13
   case hk_13=>
    rintro _ _ ⟨kv,B,rfl⟩;refine ⟨Zk (AZ),?_⟩;obtain ⟨gy,gm,rfl⟩:=B.form;refine A3 14 V (AA (off:=6) E4 V rfl DA Y)<|Zz (l:=[12])<|B7 [true] [(10,(_,_))] V rfl (Ai (vs:=[_]) (cs:=[_]) T7 I3 cU Y V rfl V rfl V) ?_ (fun _ _ h=>h.elim) Aj;rintro _ _ ⟨ic,rfl,rfl⟩;refine BW<|Yw 13 32767 V (Ee (by_:=24) (sz:=1) (news:=[_]) T7 (V:Tryz.prog.info? 52=some Tryz.t52) V rfl V rfl Y X Y Wo Wh B0 V hQ B1 A0 A0) ?_;rintro _ _ ⟨l5,G,rfl⟩;obtain ⟨j3,gq,rfl⟩:=G.form;refine Yw 15 65535 V (Zs DA Y Y V (hc:=by exact (V:_=(#[I4 (t:Int),I4 (c:Int),I4 lo,I4 hi,I4 (((BO rs (t:Int) c).length:Nat):Int),I4 (((CQ (BO rs (t:Int) c) c lo):Nat):Int),_,_,.slice qt 16 ct]:AK))) (hi:=by(simp;done)))<|Cp<|A3 16 V (AA (off:=7) E4 V rfl S8 Y)<|Zz (l:=[17])<|B7 [] [] V rfl (Zs S8 Y Y V (hc:=by exact (V:_=(#[I4 (t:Int),I4 (c:Int),I4 lo,I4 hi,I4 (((BO rs (t:Int) c).length:Nat):Int),I4 (((CQ (BO rs (t:Int) c) c lo):Nat):Int),_,_,.slice qt 16 ct]:AK))) (hi:=by(simp;done))) ?_ (fun _ _ h=>h.elim) Aj;rintro _ _ ⟨rfl,rfl⟩;refine BW<|Ag<|Zn [10,12,15,16,17] ?_;refine A8<|Zx<|Zg<|Zm Y<|Ya (n:=1) Y Y<|AW Y<|Zn [17,10,12,15,16] ?_;refine Aa (e':=[(17,_)]) (by exact ⟨k+1,_,_,_,_,J++[_],I++W,rfl,⟨by omega,BZ B rfl (by rw [Bn d9,Bo];rfl),BZ G rfl rfl,bn⟩,rfl,rfl⟩)
   refine B7 [true,true] [(10,(_,_)),(1,(_,_))] V rfl (Ai (vs:=[_]) (cs:=[_]) T7 I3 cU Y V rfl V rfl V) ?_ (fun _ _ h=>h.elim) Aj;rintro _ _ ⟨ic,rfl,rfl⟩;refine BW<|Yz 8 255 8191 [10,1] [true,false] [(10,(_,_))] V Y V rfl V rfl (BV (by_:=40) (sz:=5) C1 (V:Tryz.prog.info? 80=some Tryz.t80) V rfl V rfl Y (Z) Y (Dl 5 af 1 1 80 (0,0) [I4 x.t,I4 x.k,I4 x.v.a,I4 x.v.b,I4 x.v.c] V) Wo Wo Ft A0 A0) ?_;rintro _ _ ⟨kv,B,rfl⟩;refine ⟨Zk (AZ),?_⟩;obtain ⟨gy,gm,rfl⟩:=B.form;refine A3 14 V (AA (off:=6) E4 V rfl DA Y)<|Zz (l:=[13])<|B7 [false] [] V rfl (Ee (by_:=24) (sz:=1) (news:=[_]) T7 (V:Tryz.prog.info? 52=some Tryz.t52) V rfl V rfl Y X Y Wo Wh B0 V hQ B1 A0 A0) ?hk_21 (fun _ _ h=>h.elim) ?hl_21
   case hk_21=>
    rintro _ _ ⟨l5,G,rfl⟩;refine ⟨AZ,?_⟩;obtain ⟨j3,gq,rfl⟩:=G.form;refine Yw 15 65535 V (Zs DA Y Y V (hc:=by exact (V:_=(#[I4 (t:Int),I4 (c:Int),I4 lo,I4 hi,I4 (((BO rs (t:Int) c).length:Nat):Int),I4 (((CQ (BO rs (t:Int) c) c lo):Nat):Int),_,_,.slice qt 16 ct]:AK))) (hi:=by(simp;done)))<|Cp<|A3 16 V (AA (off:=7) E4 V rfl S8 Y)<|Zz (l:=[17])<|B7 [] [] V rfl (Zs S8 Y Y V (hc:=by exact (V:_=(#[I4 (t:Int),I4 (c:Int),I4 lo,I4 hi,I4 (((BO rs (t:Int) c).length:Nat):Int),I4 (((CQ (BO rs (t:Int) c) c lo):Nat):Int),_,_,.slice qt 16 ct]:AK))) (hi:=by(simp;done))) ?_ (fun _ _ h=>h.elim) Aj;rintro _ _ ⟨rfl,rfl⟩;refine BW<|Ag<|Zn [10,12,15,16,17] ?_;refine A8<|Zx<|Zg<|Zm Y<|Ya (n:=1) Y Y<|AW Y<|Zn [17,10,12,15,16] ?_;refine Aa (e':=[(17,_)]) (by exact ⟨k+1,_,_,_,_,J++[_],I++W,rfl,⟨by omega,BZ B rfl (by rw [Bn d9,Bo];rfl),BZ G rfl rfl,bn⟩,rfl,rfl⟩)
   exact Aj
  refine B7 [true,true,true,true] [(10,(_,_)),(6,(_,_)),(3,(_,_)),(1,(_,_))] V rfl (Ai (vs:=[_]) (cs:=[_]) T7 I3 cU Y V rfl V rfl V) ?_ (fun _ _ h=>h.elim) Aj;rintro _ _ ⟨ic,rfl,rfl⟩;refine ⟨Zk (Ev (by simp [*]) (Zk (Zk (AZ)))),?_⟩;refine Yz 7 124 7935 [10,6,3,1] [true,false,false,true] [(10,(_,_)),(1,(_,_))] V Y V rfl V rfl (Ai (vs:=[_]) (cs:=[_,_,_,_,_]) C1 B3 F0 Y V rfl V rfl V)<|AG fun af=>BW<|Yz 8 255 8191 [10,1] [true,false] [(10,(_,_))] V Y V rfl V rfl (BV (by_:=40) (sz:=5) C1 (V:Tryz.prog.info? 80=some Tryz.t80) V rfl V rfl Y (Z) Y (Dl 5 af 1 1 80 (0,0) [I4 x.t,I4 x.k,I4 x.v.a,I4 x.v.b,I4 x.v.c] V) Wo Wo Ft A0 A0) ?_;rintro _ _ ⟨kv,B,rfl⟩;refine ⟨Zk (AZ),?_⟩;obtain ⟨gy,gm,rfl⟩:=B.form;refine A3 14 V (AA (off:=6) E4 V rfl DA Y)<|Zz (l:=[13])<|B7 [false] [] V rfl (Ee (by_:=24) (sz:=1) (news:=[_]) T7 (V:Tryz.prog.info? 52=some Tryz.t52) V rfl V rfl Y X Y Wo Wh B0 V hQ B1 A0 A0) ?hk_28 (fun _ _ h=>h.elim) ?hl_28
  case hk_28=>
   rintro _ _ ⟨l5,G,rfl⟩;refine ⟨AZ,?_⟩;obtain ⟨j3,gq,rfl⟩:=G.form;refine Yw 15 65535 V (Zs DA Y Y V (hc:=by exact (V:_=(#[I4 (t:Int),I4 (c:Int),I4 lo,I4 hi,I4 (((BO rs (t:Int) c).length:Nat):Int),I4 (((CQ (BO rs (t:Int) c) c lo):Nat):Int),_,_,.slice qt 16 ct]:AK))) (hi:=by(simp;done)))<|Cp<|A3 16 V (AA (off:=7) E4 V rfl S8 Y)<|Zz (l:=[17])<|B7 [] [] V rfl (Zs S8 Y Y V (hc:=by exact (V:_=(#[I4 (t:Int),I4 (c:Int),I4 lo,I4 hi,I4 (((BO rs (t:Int) c).length:Nat):Int),I4 (((CQ (BO rs (t:Int) c) c lo):Nat):Int),_,_,.slice qt 16 ct]:AK))) (hi:=by(simp;done))) ?_ (fun _ _ h=>h.elim) Aj;rintro _ _ ⟨rfl,rfl⟩;refine BW<|Ag<|Zn [10,12,15,16,17] ?_;refine A8<|Zx<|Zg<|Zm Y<|Ya (n:=1) Y Y<|AW Y<|Zn [17,10,12,15,16] ?_;refine Aa (e':=[(17,_)]) (by exact ⟨k+1,_,_,_,_,J++[_],I++W,rfl,⟨by omega,BZ B rfl (by rw [Bn d9,Bo];rfl),BZ G rfl rfl,bn⟩,rfl,rfl⟩)
  exact Aj
 have ek:k=(toT (BO rs (t:Int) c) c hi) -(CQ (BO rs (t:Int) c) c lo):=by omega
 subst ek;refine BD<|Zt<|Zt<|AV<|Zx<|A1<|Zo Wh (AB (cs:=#[I4 (t:Int),I4 (c:Int),I4 lo,I4 hi,I4 (((BO rs (t:Int) c).length:Nat):Int),I4 (((CQ (BO rs (t:Int) c) c lo):Nat):Int),.slice q2 _ c2,.slice q3 _ c3,.slice qt 16 ct]) isAgg171 Mu Y B5 B0) ?_;refine Xe (Xw Mu #[I4 (t:Int),I4 (c:Int),I4 lo,I4 hi,I4 (((BO rs (t:Int) c).length:Nat):Int),I4 (((CQ (BO rs (t:Int) c) c lo):Nat):Int),.slice q2 _ c2,.slice q3 _ c3,.slice qt 16 ct]) ?_;refine A5 Y<|AJ<|CL rfl results90 Y Wh (Au isAgg171 Mu Wn (rfl)) Y (by exact ⟨_,_,_,U,sp,J,W,so,rfl,BZ Z (by rw [CD,CH];omega) rfl,X,hP,O,rfl⟩)
end Go.Proofs.YthhakdmlpngcmaaGreatDoor
