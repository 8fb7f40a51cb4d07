/- slices.Backward; digest.Root. -/
import Derived.Test.YthhakdmlpngcmaaGreatDoorTr1
set_option linter.unusedVariables false
set_option linter.unusedSimpArgs false
namespace Go.Proofs.YthhakdmlpngcmaaGreatDoor
open Go.Proofs.Tryz
open Go Go.RowKit Gw
set_option maxRecDepth 100000
attribute [local irreducible] Gw.At Gw.Nx Gw.Ops
def bwd{α:Type} [Inhabited α](ls:List α):List (Nat×α):=(List.range ls.length).reverse.map (fun i=>(i,ls.getD i default))
variable{α:Type}
theorem Re [Inhabited α](ls:List α):(bwd ls).length=ls.length:=by simp [bwd]
theorem Xx [Inhabited α]{ls:List α}{m:Nat}{s:α}(h:ls[m]?=some s):(bwd ls)[ls.length -(m+1)]?=some (m,s):=by
 have g:=(C4.1 h).1;unfold bwd;rw [DQ,List.getElem?_reverse It,Wg,T0 A0];rw [show ls.length -1 -(ls.length -(m+1))=m by omega];simp [List.getD,h]
theorem Jk [Inhabited α](ls:List α):(bwd ls).map Prod.snd=ls.reverse:=by
 apply MD;intro i;by_cases hi:i<ls.length
 · have g:ls[ls.length -1 -i]?=some (ls[ls.length -1 -i]'A0):=BT _
   have h2:=Xx g;rw [show ls.length -(ls.length -1 -i+1)=i by omega]at h2;rw [DQ,h2,List.getElem?_reverse hi,g];rfl
 · rw [Lq (by rw [B6,Re];omega),Lq It]
theorem zA [Inhabited α]{ls:List α}{x:Nat×α}(h:x∈bwd ls):x.2∈ls:=by
 have g:x.2∈(bwd ls).map Prod.snd:=C6.2 ⟨x,h,rfl⟩;rw [Jk,fh]at g;exact g
theorem K6{xs:List α}{j:Nat}{x:α}(h:xs[j]?=some x):xs=xs.take j++x::xs.drop (j+1):=by
 have g:=(C4.1 h).1;rw [BT g]at h;injection h with h
 rw [<-h,<-RW g,K1]
theorem vD(xs:List Bs)(q:Bs):(bwd xs).foldl (fun o (x:Nat×Bs)=>JH x.2 o) q=xs.reverse.foldl (fun o r=>JH r o) q:=by
 rw [<-Jk,List.foldl_map]
theorem Wz(f:List α->A4)(ps:List (List α))(p q:List α):(((ps++[p])++[q]).map f)[(ps++[p]).length+1 -2]?=some (f p)/\(((ps++[p])++[q]).map f)[(ps++[p]).length+1 -1]?=some (f q):=by
 have e:(ps++[p]).length=ps.length+1:=by simp
 constructor;· rw [show(ps++[p]).length+1 -2=ps.length by omega];simp
 · rw [show(ps++[p]).length+1 -1=ps.length+1 by omega];simp
theorem YH(f:List α->A4)(ps:List (List α))(p q:List α):(((ps++[p])++[q]).map f).take (((ps++[p]).length+1 -2)*1)=ps.map f:=by
 rw [show((ps++[p]).length+1 -2)*1=(ps.map f).length by simp];simp
theorem yJ(f:List α->A4)(ps:List (List α))(q:List α):((ps++[q]).map f)[(ps++[q]).length -1]?=some (f q):=by
 rw [show(ps++[q]).length -1=ps.length by simp];simp
theorem nT(f:List α->A4)(ps:List (List α))(q:List α):((ps++[q]).map f).take (((ps++[q]).length -1)*1)=ps.map f:=by
 rw [show((ps++[q]).length -1)*1=(ps.map f).length by simp];simp
theorem jr{ps:List α}(h:0<ps.length):∃g p,ps=g++[p]:=by
 rcases jt ps with rfl|⟨a,b,e⟩
 · simp at h
 · exact ⟨a,b,by rw [e,oR]⟩
theorem vC(xs:List (Nat×Bs))(q:Bs)(g:q.length=32):(xs.foldl (fun o (x:Nat×Bs)=>JH x.2 o) q).length=32:=by
 rcases jt xs with rfl|⟨ys,y,rfl⟩
 · exact g
 · rw [oR,cD];exact X8 _
theorem Uy(p:B8)(n c:Nat):BS prog 241 #[.slice p n c] [] (fun r H'=>∃b,r= .func (.func 276) #[] #[I1 b]/\H'=[[(b,.cells #[.slice p n c] 52 (0,0))]]):=by
 refine Se func241 ntmps241 [0] ?_;intro u R;refine A1<|Ze (Bx #[_])<|AG fun b=>A5 Y<|A1<|Zv (Bf (vs:=[]) (us:=[_]) Y Y)<|A5 Y<|AJ<|AP V results241 Y (by exact ⟨_,V,V⟩)
variable{M:List A9}{v:A4}{ls:List Bs}
theorem Uz(hv:Ed M v ls)(b:Nat)(hn:ls.length<=1000000000000):
 Eh prog 276 #[I1 b] [[(b,.cells #[v] 52 (0,0))]] (fun s=>∀c∈M,c∈s) (fun x=>#[I0 ((x.1:Nat):Int),GA x.2]) (bwd ls):=by
 have af:=mL;obtain ⟨p,cap,rfl,hl,hg⟩:=hv;intro l J hA hy s B;refine Se func276 ntmps276 [0,1] ?_;intro u R;refine A1<|Zl LS Y ?_;refine Zv (Ab DH Y) ?_
 (refine BZ (FU Y Y (IntWalk.i64_in _ ?_)) ?_;(focus (omega)))
 refine A5 Y<|AR<|Zb [3,0,1] ?_;refine BF (e0:=[(3,_)]) (fun m e H=>∃(k:Nat) (s:List A9),m=0+k/\(k<=ls.length/\J ((bwd ls).take (ls.length -k)) s)/\e=[(3,I0 ((k:Int) -1))]/\H=[[(b,.cells #[.slice p ls.length cap] 52 (0,0))],s]) (by exact ⟨ls.length,s,rfl,⟨CT _,by rw [T7,J0];exact B⟩,rfl,rfl⟩) Wp ?_;rintro _ _ _ ⟨k,s,rfl,⟨hk,B⟩,rfl,rfl⟩;refine Zq<|A1<|Zm Y<|Zv (GV Y Y)<|A6<|Av Y (fun X=>?_) (fun X=>?_);·
  obtain ⟨m,rfl⟩:∃m,k=m+1:=⟨k -1,by omega⟩;rw [show(((m+1:Nat):Int) -1)=((m:Nat):Int) by omega];obtain ⟨z9,O⟩:∃z9,ls[m]?=some z9:=⟨_,BT A0⟩;have G:=Xx O
  obtain ⟨g,o,cur,T,zz,rfl,hm,I⟩:=hg m z9 O;have K:=I
  have Z:=hy _ _ _ s (K6 G) B;refine AC<|Zx<|Zq<|AR<|A1<|Zm Y<|Zm Y<|Zl LS Y ?_;refine Zm Y<|BZ (CG DH Fk Y Y A0)<|CS (cs:=[(g,.cells cur T zz)]) (by simp [hA _ s B _ hm]) (BD HO Y K) V rfl ?_;refine Ze (Ff (vs:=[_,_]) Y Y (Z) Wp) ?_;rintro _ _ ⟨_,⟨s',rfl,rfl,U⟩,rfl⟩;refine Zv (Br Y)<|A6<|AQ Y (fun hb=>by cases hb)<|fun hb=>AC<|A8<|Zx<|Zg<|Zm Y ?_
  (refine BZ (FU Y Y (IntWalk.i64_in _ ?_)) ?_;(focus (omega)))
  refine AW Y<|Zn [3,0,1] ?_;refine Aa (e':=[(3,_)]) (by exact ⟨m,s',rfl,⟨by omega,by rw [show ls.length -m=ls.length -(m+1)+1 by omega,Bl G];exact U⟩,rfl,rfl⟩)
 have W:k=0:=by omega
 subst W;rw [S8,Hx (by rw [Re];exact CT _)]at B;refine Az<|Zt<|Zt<|AV<|Cc V results276 (by exact ⟨s,V,B⟩)
theorem Pz(hv:Ed M v ls)(hn:ls.length<=1000000)(hs:∀s∈ls,s.length<=140737488354000)(Tg:AK)(zg:Nat×Nat):BJ prog 191 #[v] [[(4,.cells (Ez.map Cw).toArray Tg zg)],M] (.string (str (Dl ls))):=by
 have sO:=mL;obtain ⟨p,cap,rfl,hl,hg⟩:=hv;refine DT func191 V ntmps191 V ?_;intro u R;refine Zb [0] ?_;refine A1<|A5 Y<|A1<|A5 Y<|A1<|A5 Y<|Zq<|A1<|Zm Y<|Zv (Ab DH Y)<|Zm Y<|A6<|AR<|Be<|Be<|Zb [3,4,13,11,12] ?_;refine BF (e0:=[(3,_),(4,_),(13,_)]) (fun m e H=>∃(i:Nat) (ps:List (List Bs)) (vw:A4) (sw:List A9) (vz:A4) (sz:List A9),m=ls.length -i/\(i<=ls.length/\JS ps/\ps.flatten=ls.take i/\Bc 1 9 vw ps.length (ps.map rtV) sw/\Bc 1 3 vz ps.length (ps.map lnV) sz/\ps.length<=i)/\e=[(3,vw),(4,vz),(13,I0 (i:Int))]/\H=[sw,sz]) (by exact ⟨0,[],.slice none 0 0,[],.slice none 0 0,[],V,⟨C7 _,wC,V,Bi 1 _,Bi 1 _,CT _⟩,V,V⟩) Wp ?_;rintro _ _ _ ⟨i,ps,vw,sw,vz,sz,rfl,⟨hi,hB,hf,J,X,pz⟩,rfl,rfl⟩;refine A1<|Zv (Ay Y Y)<|A6<|Zq<|Av Y (fun j3=>?_) (fun j3=>?_);·
  obtain ⟨s9,d9⟩:∃s9,ls[i]?=some s9:=⟨_,BT j3⟩;obtain ⟨g,o,cur,T,zz,rfl,pq,ic⟩:=hg i s9 d9;obtain ⟨qw,cw,rfl⟩:=J.form;obtain ⟨qz,cz,rfl⟩:=X.form;have kv:=hs s9 (DO d9)
  refine AC<|Zx<|Zq<|AR<|A1<|BZ (CG DH Fk Y Y A0)<|CS (cs:=[(g,.cells cur T zz)]) (by simp [pq]) (BD HO Y ic) V rfl ?_;refine A5 Y<|A1<|Zm Y<|Zm Y<|Xr [_] Y call238 Y V (nR s9 kv Tg zg) ?_;refine Ze (Ai (vs:=[_]) (cs:=[_]) DH Fk HT Y V rfl V rfl V)<|AG fun b1=>Ze (Eg (by_:=16) (sz:=1) (news:=[_]) DH (V:Tryz.prog.info? 9=some Tryz.t9) V rfl V rfl Y J Y Wo Wh Ax V G0 B0 A0 A0) ?_;rintro _ _ ⟨sw,J,rfl⟩;obtain ⟨gw,cw,rfl⟩:=J.form;refine Zm Y<|Ze (Ai (vs:=[_]) (cs:=[_]) DG AE HI Y V rfl V rfl V)<|AG fun b3=>Ze (Eg (by_:=8) (sz:=1) (news:=[_]) DG (V:Tryz.prog.info? 3=some Tryz.t3) V rfl V rfl Y X Y Wo Wh Ax V G0 B0 A0 A0) ?_;rintro _ _ ⟨sz,X,rfl⟩;obtain ⟨gz,cz,rfl⟩:=X.form;refine Za Y<|AW Y<|Zn [3,4,11,12,13] ?_;refine Zx<|A1<|Zm Y<|Zv (Ab DG Y)<|A5 Y<|AR<|Zb [3,4,7,11,12,13] ?_;refine BF (e0:=[(3,_),(4,_),(7,_)]) (fun m e H=>∃(G:List (List Bs)) (q:List Bs) (gq:A4) (ek:List A9) (gy:A4) (gm:List A9),m=0+G.length/\(O8 ls G q (i+1)/\Bc 1 9 gq (G.length+1) ((G++[q]).map rtV) ek/\Bc 1 3 gy (G.length+1) ((G++[q]).map lnV) gm/\G.length<=i)/\e=[(3,gq),(4,gy),(7,I0 ((G.length+1:Nat):Int))]/\H=[ek,gm]) (by exact ⟨ps,[s9],_,_,_,_,rfl,⟨nH hB hf d9,Ba J rfl (by rw [C0,MA];unfold rtV;rw [rR];rfl),Ba X rfl (by rw [C0];rfl),pz⟩,rfl,rfl⟩) Wp ?_;rintro _ _ _ ⟨G,q,gq,ek,gy,gm,rfl,⟨hM,O,U,ve⟩,rfl,rfl⟩;refine Zq<|Zq<|Aw (n:=15) (0::1::3::7::7::23::63::127::7::7::519::1799::3847::8191::16383::[]) 0 AF AF V<|A3 0 V (AO Y)<|A3 1 V (DN (n:=1) Y Y)<|A3 2 V (AO Y)<|DD (t:=29) Y (fun cO=>?_) (fun cO=>?_);·
   rw [D2 cO];obtain ⟨B,Z,rfl⟩:=jr (ps:=G) A0;have vo:(B++[Z]).length=B.length+1:=by simp
   obtain ⟨cu,o9,W,l9,rfl,rfl,j5,K⟩:=Lg (id O) A0;obtain ⟨sJ,qx,o8,y5,rfl,rfl,ql,af⟩:=Lg (id U) A0;have qj:=af _ _ (Wz lnV B Z q).1
   have l8:=af _ _ (Wz lnV B Z q).2;have dn:=K _ _ (Wz rtV B Z q).1
   have qa:=K _ _ (Wz rtV B Z q).2;have q9:q.length<=ls.length:=by have h9:=congrArg List.length hM.flat;rw [BW,CD]at h9;omega
   refine B1 3 V (AO Y)<|B1 4 V (AO Y) ?_
   (refine B1 5 rfl (CQ (n:=2) Y Y ?_ ?_) ?_;(focus (omega));(focus (omega)))
   refine B1 6 V (BU DG AE Y Y A0)<|DP 7 V Wh (BD AH Y qj) ?_;refine B1 8 V (AO Y)<|B1 9 V (AO Y) ?_
   (refine B1 10 rfl (CQ (n:=1) Y Y ?_ ?_) ?_;(focus (omega));(focus (omega)))
   refine B1 11 V (BU DG AE Y Y A0)<|DP 12 V Wh (BD AH Y l8) ?_;refine B1 13 V (Cj Y Y)<|A3 14 V (AX Y Y)<|Ag<|Zn [3,4,7,11,12,13,41] ?_;refine Zx<|Av Y (fun he=>?_) (fun he=>?_);·
    have l5:=hM.step he;refine AC<|Zx<|Zq<|AR<|Zq<|Aw (n:=18) (0::0::2::7::0::0::32::112::240::0::0::1024::3584::7680::16368::32752::65535::131071::[]) 114688 AF AF V<|A3 0 V (AO Y)<|A3 1 V (AO Y) ?_
    (refine Dn (D':=7) 2 (CQ (n:=2) Y Y ?_ ?_) ?_;(focus (omega));(focus (omega)))
    refine A3 3 V (Bt DH Fk Y Y A0)<|A3 4 V (AO Y)<|A3 5 V (AO Y) ?_
    (refine Dn (D':=127) 6 (CQ (n:=2) Y Y ?_ ?_) ?_;(focus (omega));(focus (omega)))
    refine A3 7 rfl (BU DH Fk Y Y (by first|omega|(simp;omega)))<|BE 8 rfl HO Y (hv:=by exact dn) ?_;refine A3 9 V (AO Y)<|A3 10 V (AO Y) ?_
    (refine Dn (D':=4095) 11 (CQ (n:=1) Y Y ?_ ?_) ?_;(focus (omega));(focus (omega)))
    refine A3 12 rfl (BU DH Fk Y Y (by first|omega|(simp;omega)))<|BE 13 rfl HO Y (hv:=by exact qa) ?_;refine Yw 14 32767 rfl (Zu [_,_] Y call239 Y rfl (Vr (Dl Z) (Dl q) (by rw [Ll];omega) (by rw [Ll];omega) Tg zg))<|D0<|Yw 15 65535 V (Ai (vs:=[_]) (cs:=[_]) DH Fk HT Y V rfl V rfl V)<|AG fun b5=>Yw 16 131071 V (Eg (by_:=16) (sz:=1) (news:=[_]) DH (V:Tryz.prog.info? 9=some Tryz.t9) V rfl V rfl Y (Px O ((B++[Z]).length+1 -2) A0) Y Wo Wh Ax V G0 B0 A0 A0) ?_;rintro _ _ ⟨wo,ax,rfl⟩;obtain ⟨sj,qo,rfl⟩:=ax.form;refine A3 17 V (Aq Y)<|Ag<|Zn [3,4,7,11,12,13] ?_;refine Zx<|Aw (n:=13) (0::0::2::7::0::0::32::112::240::496::1008::2047::4095::[]) 3072 AF AF V<|A3 0 V (AO Y)<|A3 1 V (AO Y) ?_
    (refine Dn (D':=7) 2 (CQ (n:=2) Y Y ?_ ?_) ?_;(focus (first|omega|(simp;omega)));(focus (first|omega|(simp;omega))))
    refine A3 3 V (Bt DG AE Y Y A0)<|A3 4 V (AO Y)<|A3 5 V (AO Y) ?_
    (refine Dn (D':=127) 6 (CQ (n:=1) Y Y ?_ ?_) ?_;(focus (first|omega|(simp;omega)));(focus (first|omega|(simp;omega))))
    refine A3 7 rfl (BU DG AE Y Y (by first|omega|(simp;omega)))<|BE 8 rfl AH Y (hv:=by exact l8) ?_;refine A3 9 rfl (FC (m:=2) Y Y (by first|omega|(simp;omega)))<|Yw 10 2047 rfl (Ai (vs:=[_]) (cs:=[_]) DG AE HI Y rfl rfl rfl rfl rfl)<|AG fun b7=>Yw 11 4095 V (Eg (by_:=8) (sz:=1) (news:=[_]) DG (V:Tryz.prog.info? 3=some Tryz.t3) V rfl V rfl Y (Px U ((B++[Z]).length+1 -2) A0) Y Wo Wh Ax V G0 B0 A0 A0) ?_;rintro _ _ ⟨wz,bn,rfl⟩;obtain ⟨sM,r9,rfl⟩:=bn.form;refine A3 12 V (Aq Y)<|Ag<|Zn [3,4,7,11,12,13] ?_;refine A8<|Zx<|Zg<|Zm Y<|Yb (n:=1) Y Y<|AW Y<|Zn [3,4,7,11,12,13] ?_;refine Aa (e':=[(3,_),(4,_),(7,_)]) (by exact ⟨B,Z++q,_,_,_,_,rfl,⟨l5.1,Ba ax A0 (by rw [YH,C0,MA];unfold rtV;rw [l5.2];rfl),Ba bn A0 (by rw [YH,C0,MA];unfold lnV;rw [BW,he,<-Nat.two_mul]),by omega⟩,(by rw [show(B++[Z]).length+1 -1=B.length+1 by omega]),rfl⟩)
   have hD:=hM.done (fun a b e9=>by have e8:=List.singleton_inj.1 (jz e9 rfl).2;rw [<-e8];exact he);refine Az<|Zt<|Zt<|AV<|A8<|Zx<|Zg<|Ya (n:=1) Y Y<|Zm Y<|Z0<|Zn [3,4,13,11,12] ?_;refine Aa (e':=[(3,_),(4,_),(13,_)]) (by exact ⟨i+1,_,_,_,_,_,rfl,⟨by omega,hD.1,hD.2,Ba O B4 rfl,Ba U B4 rfl,by rw [BW];simp;omega⟩,rfl,rfl⟩)
  rw [Cl cO];have hD:=hM.done (fun a b e9=>by have e8:=congrArg List.length e9;rw [BW]at e8;simp at e8;omega)
  refine AN 3 V<|AN 4 V<|AN 5 V<|AN 6 V<|AN 7 V<|AN 8 V<|AN 9 V<|AN 10 V<|AN 11 V<|AN 12 V<|AN 13 V<|A3 14 V (AL Y Y)<|Ag<|Zn [3,4,7,11,12,13,41] ?_;refine Zx<|DI Y<|Az<|Zt<|Zt<|AV<|A8<|Zx<|Zg<|Ya (n:=1) Y Y<|Zm Y<|Z0<|Zn [3,4,13,11,12] ?_;refine Aa (e':=[(3,_),(4,_),(13,_)]) (by exact ⟨i+1,_,_,_,_,_,rfl,⟨by omega,hD.1,hD.2,Ba O B4 rfl,Ba U B4 rfl,by rw [BW];simp;omega⟩,rfl,rfl⟩)
 have ei:i=ls.length:=by omega
 subst ei;rw [Hx (CT _)]at hf;obtain ⟨qw,cw,rfl⟩:=J.form;refine Az<|Zt<|Zt<|AV<|Zx<|Zq<|A1<|Zm Y<|Zv (Ab DH Y)<|Zv (Cj (n:=0) Y Y)<|A6<|Av Y (fun h0=>?_) (fun h0=>?_);·
  have e0:=Lz h0;subst e0;have e1:ls=[]:=hf.symm
  refine A1<|Xr [_] Y call240 Y V (jR [] B4 Tg zg) ?_;refine A5 Y<|AJ<|Zt<|TT rfl (eG results191 Y) (by exact ⟨by rw [e1,rT],rfl⟩)
 obtain ⟨B,q,rfl⟩:=jr (ps:=ps) A0;obtain ⟨cu,o9,W,l9,pg,rfl,j5,K⟩:=Lg (id J) A0;injection pg with hev1 hev2 hev3
 subst hev1 hev3;have dn:=K _ _ (yJ rtV B q)
 have q9:(B++[q]).length=B.length+1:=by simp
 refine AC<|Zx<|A1<|Zm Y<|Zm Y<|Zv (Ab DH Y)<|Yb (n:=1) Y Y ?_;refine BZ (BU DH Fk Y Y A0)<|Zl HO Y (hv:=by exact dn) ?_;refine Ze (Al HT #[_])<|AG fun ob=>Xe (Zs Fk Y Y V (hc:=by exact (V:_=(#[GA (Dl q)]:AM)))) ?_;refine A6<|Zq<|A1<|Zm Y<|Zm Y<|Zv (Ab DH Y)<|Yb (n:=1) Y Y ?_;refine BZ (Bt DH Fk Y Y A0)<|Zc [_] Y call241 Y V (Uy _ _ _) ?_;rintro _ _ ⟨_,⟨bb,rfl,rfl⟩,rfl⟩;refine Z0<|Zn [8,89] ?_;refine Zx<|AR<|Zb [8,89] ?_;refine LJ (H0:=_) (R:=_) (I:=(fun pre H=>H=[[(ob,.cells #[GA (pre.foldl (fun o (x:Nat×Bs)=>JH x.2 o) (Dl q))] 9 (0,0))],[(cu,.cells W 9 l9)],[(4,.cells (Ez.map Cw).toArray Tg zg)]])) (asg:=fun x=>[(10,GA x.2),(91,GA x.2),(90,I0 ((x.1:Nat):Int))]) rfl Y call276 (Uz (ls:=B.map Dl) (v:=I2 cu ((B++[q]).length -1) cw) (Ho (Ba (Px J ((B++[q]).length -1) A0) B4 (by rw [nT,KK];rfl)) (by rw [B6];omega)) bb (by rw [B6];omega)) (fun pre H1 c d h=>by subst h;intro x hx;simp at hx;simp [hx]) Y rfl Wp (rfl) ?ha_13 ?hbd_13 ?hk_13
 case ha_13=>
  intro _ x _ _;refine Zg<|Za Y<|Z0 ?_;exact jh
 case hbd_13=>
  intro l pre x post u H1 R1 qb hI;subst hI;refine AR<|Zg<|Zm Y<|Zl HO Y ?_;refine Xr [_,_] Y call239 Y rfl (Vr x.2 _ (by obtain ⟨y9,_,e9⟩:=C6.1 (zA (Vt qb));rw [<-e9,Ll];omega) (by rw [vC _ _ (Ll q)];omega) Tg zg) ?_;refine Xe (Zs Fk Y Y V) ?_;refine Z0<|A8<|Ei rfl (by rw [cD])
 intro D1 H2 p8;subst p8;refine Zn [8] ?_;refine A8<|Zx<|A1<|Zl HO Y ?_;refine A5 Y<|AJ<|Fw rfl (eG results191 Y) Wo (by exact ⟨by rw [vD,vB,hB.root,<-hf];simp,rfl⟩)
theorem UJ:∀(f x:Nat),0<x->x<2^f->Lib.bitLenAux f x=Nat.log2 x+1
 |0,x,h0,h1=>by simp at h1;omega
 |f+1,x,h0,h1=>by
  unfold Lib.bitLenAux;rw [An A0];rw [fy]at h1;rcases FA x 2 with h|h
  · have e:x=1:=by omega
    subst e;cases f<;>rfl
  · rw [UJ f (x/2) A0 A0]
    conv=>rhs;rw [Nat.log2_def,As h]
    omega
theorem nQ(n:Nat)(g:2<=n)(h2:n<=1000000000000):Lib.bitLen (n -1)=Nat.log2 (n -1)+1:=UJ 64 (n -1) A0 A0
def Fa(l:List Bs)(i:Nat):List Bs:=
 if h:2<=l.length then
  if i<DY l.length then Fa (l.take (DY l.length)) i++[Dl (l.drop (DY l.length))]
  else Fa (l.drop (DY l.length)) (i -DY l.length)++[Dl (l.take (DY l.length))]
 else []
termination_by l.length
decreasing_by
 · have:=PH h;rw [CD];omega
 · have:=PG l.length;rw [CH];omega
variable{l:List Bs}
theorem Vd(h:l.length<=1)(i:Nat):Fa l i=[]:=by rw [Fa,dif_neg A0]
variable{i:Nat}
theorem Qn(h:2<=l.length)(hi:i<DY l.length):Fa l i=Fa (l.take (DY l.length)) i++[Dl (l.drop (DY l.length))]:=by rw [Fa,dif_pos h,As hi]
theorem Oq(h:2<=l.length)(hi:¬i<DY l.length):Fa l i=Fa (l.drop (DY l.length)) (i -DY l.length)++[Dl (l.take (DY l.length))]:=by rw [Fa,dif_pos h,An hi]
theorem Ed.take{p:B8}{cap:Nat}(h:Ed M (.slice p ls.length cap) ls)(n:Nat)(I:n<=ls.length):Ed M (.slice p n cap) (ls.take n):=by
 obtain ⟨J,m,e,G,B⟩:=h;injection e with e1 e2 e3
 subst e1 e3;have g:(ls.take n).length=n:=by rw [CD];omega
 refine ⟨p,cap,by rw [g],by rw [g];omega,fun i z hz=>B i z ?_⟩;rw [HH]at hz;split at hz;· exact hz
 · cases hz
theorem Ed.drop{B g cap:Nat}(h:Ed M (.slice (some ⟨B,g,none⟩) ls.length cap) ls)(n:Nat)(hn:n<ls.length):Ed M (.slice (some ⟨B,g+n,none⟩) (ls.length -n) (cap -n)) (ls.drop n):=by
 obtain ⟨p',K,e,Z,W⟩:=h;injection e with e1 e2 e3
 subst e1 e3;refine ⟨_,_,by rw [CH],by rw [CH];omega,fun i z hz=>?_⟩;rw [S1]at hz;obtain ⟨X,O,m,U,J,e2,I,G⟩:=W (n+i) z hz;injection e2 with e2;injection e2 with e3 e4
 subst e3 e4;exact ⟨B,g+n,m,U,J,rfl,I,by rw [kB];exact G⟩
variable{e:AK}
theorem o6{w:AD}{g:Nat}{cur:AM}{z:Nat×Nat}(enc:Bs->A4){zs:List Bs}(I:w.heap[g]?=some (.cells cur e z))(K:zs.length<=cur.size)(B:Ih z cur.size)(O:cur.toList.take zs.length=zs.map enc):Go.Sort.Holds enc w g 0 zs.toArray:=by
 intro j J;have m:j<zs.length:=by simpa using J
 have U:=B j A0;have G:(cur.toList.take zs.length)[j]?=(zs.map enc)[j]?:=by rw [O]
 rw [lf m]at G;refine ⟨?_,?_⟩
 · simp only [World.cell?,I,D4]
   simp only [od,Mz,HP];rw [<-HR,G];simp [m]
 · simp only [World.frozen?,I,D4]
   simp;omega
theorem XJ(enc:Bs->A4)(cur:AM)(g:List Bs)(h:g.length<=cur.size):(Go.Sort.putCells enc 0 g.toArray cur).toList.take g.length=g.map enc:=by
 apply MD;intro j;rw [HH];by_cases m:j<g.length
 · rw [As m,HR]
   unfold Go.Sort.putCells;rw [oB,HQ A0];simp [m]
 · rw [An m,Lq It]
theorem Sat.sorted_enc{u w:AD}{g n:Nat}{cur:AM}{z:Nat×Nat}{R:Hp}(enc:Bs->A4)(d:Array Bs)(h:Sat u ([(g,.cells cur e z)]::R) w):Sat u ([(g,.cells (Go.Sort.putCells enc 0 d cur) e z)]::R) (Go.Sort.putRow enc (Go.Sort.ahead w n) g 0 d):=by
 have m:=h.get (g,.cells cur e z) B4;refine h.upd (.here _) V rfl V ?_ fun k B=>?_;· simp [Go.Sort.putRow,Go.Sort.mapBlock,Go.Sort.ahead,Ss,m,Go.Sort.onCells]
 · have:g≠k:=fun e=>B e.symm
   simp [Go.Sort.putRow,Go.Sort.mapBlock,Go.Sort.ahead,Ss,this]
theorem XE{s:List A9}(h:Bc 1 9 v ls.length (ls.map GA) s)(hn:ls.length<=1000000000000):BS prog 193 #[v] [s] (fun r H'=>r= .tuple #[]/\∃U,Bc 1 9 v ls.length (ls.reverse.map GA) U/\H'=[U]):=by
 obtain ⟨O,⟨rfl,h0,rfl⟩|⟨g,cap,cur,z,rfl,rfl,K,J,m,G,B⟩⟩:=h
 · intro u R w I
   have e:ls=[]:=Lz h0;subst e;exact (Tryz.slices_Reverse_string_empty none 0 w).mono (by
    rintro e Z ⟨rfl,rfl⟩;exact .inl ⟨_,_,V,⟨V,[],Bi 1 _,V⟩,I⟩)
 · intro u R w I
   rw [N0]at m G;have X:=I.get (g,.cells cur 9 z) B4
   have W:=o6 (w:=w) (g:=g) (e:=9) (z:=z) GA (zs:=ls) X A0 B G;refine (Tryz.slices_Reverse_string g 0 cap ls w W A0).mono ?_;rintro e Z ⟨rfl,n,rfl⟩;refine .inl ⟨_,_,V,⟨V,_,⟨by simp,.inr ⟨g,cap,_,z,V,V,K,J,?_,?_,?_⟩⟩,V⟩,Sat.sorted_enc (n:=n) GA ls.reverse.toArray I⟩;· rw [N0];simp [Go.Sort.putCells,m]
   · rw [N0]
     have:=XJ GA cur ls.reverse (by rw [mC];omega);rw [mC]at this;exact this
   · simpa [Go.Sort.putCells]using B
theorem nP(n:Nat)(g:2<=n)(h2:n<=1000000000000):BJ prog 192 #[I0 (n:Int)] [] (I0 ((DY n:Nat):Int)):=by
 have B:=nQ n g h2;have G:=PH g
 unfold DY at G;have I:(n -1).log2<64:=(Nat.log2_lt A0).2 A0
 refine Se func192 ntmps192 [0] ?_;intro u R;refine A1<|A5 Y<|A1<|Zm Y<|BZ (CQ (n:=1) Y Y (by first|omega|(rw [S2];omega)) (by first|omega|(rw [S2];omega)))<|BZ (Lu DE XS Y (by first|omega|(rw [S2];omega)))<|Xr [_] Y call105 Y rfl (SB (H:=[]) (Rl:=fun v=>v=I0 ((Lib.bitLen (n -1):Nat):Int)) (fun w _=>(Tryz.bits_Len ((n -1:Nat):Int) w A0 A0).mono (by rintro e J ⟨rfl,rfl⟩;exact ⟨_,rfl,by rw [Up],Below.refl _ _⟩)) (fun v h=>⟨h,rfl⟩)) ?_;rw [B];refine BZ (CQ (n:=1) Y Y (by first|omega|(rw [S2];omega)) (by first|omega|(rw [S2];omega)))<|BZ (Ui (m:=1) Y Y A0 (by first|omega|(rw [S2];omega)))<|A5 Y<|AJ<|AP rfl results192 Y (by exact ⟨by rw [S2,Nat.one_mul];rfl,rfl⟩)
theorem eX(hv:Ed M v ls)(hn:ls.length<=1000000)(hs:∀s∈ls,s.length<=140737488354000)(i:Nat)(hi:i<ls.length)(Z:AK)(zg:Nat×Nat):
 BS prog 146 #[v,I0 (i:Int)] [[(4,.cells (Ez.map Cw).toArray Z zg)],M] (fun r H'=>∃vp sp,r= .tuple #[vp,I0 0]/\Bc 1 9 vp (Fa ls i).length ((Fa ls i).map GA) sp/\H'=[sp,[(4,.cells (Ez.map Cw).toArray Z zg)],M]):=by
 have ic:=mL;obtain ⟨p,cap,rfl,hl,hg⟩:=id hv;refine Se func146 ntmps146 [0,1] ?_;intro u R;refine A1<|Za Y<|A5 Y<|bW ?_;refine Zq<|A1<|Zm Y<|Zv (Ay (n:=0) Y Y)<|Zm Y<|Ao (t:=12) Y V (fun h1=>by omega)<|fun h1=>Zf Y Y<|Zf Y Y<|Yg (Ab DH Y)<|Yg (Gn Y Y)<|Zv (AL Y Y)<|A6<|Av Y (fun h2=>by omega)<|fun h2=>AC<|Zx<|A1<|A5 Y<|Zq<|bX<|Zx<|Zq<|AR<|Be<|Zb [0,1,6] ?_;refine BF (e0:=[(0,_),(1,_),(6,_)]) (fun m e H=>∃(l2:List Bs) (i2:Nat) (p2:B8) (cap2:Nat) (o:List Bs) (vo:A4) (so:List A9),m=0+l2.length/\(Ed M (.slice p2 l2.length cap2) l2/\i2<l2.length/\(∀s∈l2,s.length<=140737488354000)/\Fa ls i=Fa l2 i2++o.reverse/\Bc 1 9 vo o.length (o.map GA) so/\o.length+l2.length<=ls.length)/\e=[(0,.slice p2 l2.length cap2),(1,I0 (i2:Int)),(6,vo)]/\H=[so]) (by exact ⟨ls,i,p,cap,[],.slice none 0 0,[],V,⟨hv,hi,hs,by simp,Bi 1 _,by simp⟩,V,V⟩) Wp ?_;rintro _ _ _ ⟨l2,i2,p2,cap2,o,vo,so,rfl,⟨O,ek,J,B,I,j3⟩,rfl,rfl⟩;obtain ⟨qo,co,rfl⟩:=I.form;refine AR<|Zq<|A1<|Zm Y<|Zv (Ab DH Y)<|Zv (Cj (n:=1) Y Y)<|A6<|Av Y (fun h1=>?_) (fun h1=>?_);·
  rw [Vd (l:=l2) A0,LN]at B;refine Az<|Zt<|Ar V<|Zt<|AV<|Zx<|A1<|Zm Y<|Zc [_] Y call193 Y V (XE I A0) ?_;rintro _ _ ⟨_,⟨rfl,bn,U,rfl⟩,rfl⟩;refine A6<|A1<|Zm Y<|Za Y<|A5 Y<|AJ<|Kt ?_;refine DF rfl results146 Y Y (by exact ⟨_,bn,rfl,Ba U (by rw [B,mC]) (by rw [B]),rfl⟩)
 have h9:2<=l2.length:=by omega
 have ax:=PH h9;have gm:=PG l2.length
 have g:(l2.take (DY l2.length)).length=DY l2.length:=by rw [CD];omega
 obtain ⟨p8,cu,e8,gq,af⟩:=id O;injection e8 with e81 e82 e83
 subst e81 e83;obtain ⟨g8,d9,cO,T8,j5,rfl,gy,dn⟩:=af 0 _ (BT A0);have X:=O.take (DY l2.length) A0
 have W:=O.drop (DY l2.length) ax;refine AC<|Zx<|A1<|Zm Y<|Zv (Ab DH Y)<|Xr [_] Y call192 Y V (nP l2.length h9 A0) ?_;refine A5 Y<|Zq<|Aw (n:=8) (0::0::3::0::0::24::7::127::[]) 0 AF AF V<|A3 0 V (AO Y)<|A3 1 V (AO Y)<|A3 2 V (Bt DH Fk Y Y A0)<|A3 3 V (AO Y)<|A3 4 V (AO Y) ?_
 (refine Dn (D':=63) 5 (NA DH Fk Y Y ?_ ?_) ?_;(focus (omega));(focus (omega)))
 refine A3 6 V (Aq Y)<|A3 7 V (Aq Y)<|Ag<|Zn [1,6,7,8,9] ?_;refine Zx<|Zq<|A1<|Zm Y<|Zm Y<|Zv (Gn Y Y)<|A6<|Av Y (fun K=>?_) (fun K=>?_);·
  have K:¬i2<DY l2.length:=by omega
  refine Zg<|Zm Y<|Zm Y<|Zm Y<|Zm Y<|Yb Y Y<|Za Y<|Za Y<|A5 Y<|A1<|Zm Y<|Zm Y<|Xr [_] Y call191 Y rfl (Pz X (by rw [g];omega) (fun s h=>J s (P2 h)) Z zg) ?_;refine Ze (Ai (vs:=[_]) (cs:=[_]) DH Fk HT Y V rfl V rfl V)<|AG fun b1=>Ze (Eg (by_:=16) (sz:=1) (news:=[_]) DH (V:Tryz.prog.info? 9=some Tryz.t9) V rfl V rfl Y I Y Wo Wh Ax V G0 B0 A0 A0) ?_;rintro _ _ ⟨sw,G,rfl⟩;obtain ⟨gw,cw,rfl⟩:=G.form;refine AW Y<|Zn [1,6,8] ?_;refine Zx<|Zg<|Zm Y<|AW Y<|A8<|Zn [0,1,6] ?_;refine Aa (e':=[(0,_),(1,_),(6,_)]) (by exact ⟨l2.drop (DY l2.length),i2 -DY l2.length,_,_,o++[Dl (l2.take (DY l2.length))],_,_,(by rw [CH]),⟨(by rw [CH];exact W),by rw [CH];omega,fun s h=>J s (Kf h),by rw [B,Oq h9 K,mN,Cd];rfl,Ba G B4 (by simp;rfl),by rw [BW,CH];simp;omega⟩,(by rw [CH]),rfl⟩)
 refine AC<|Zx<|A1<|Zm Y<|Zm Y<|Xr [_] Y call191 Y rfl (Pz W (by rw [CH];omega) (fun s h=>J s (Kf h)) Z zg) ?_;refine Ze (Ai (vs:=[_]) (cs:=[_]) DH Fk HT Y V rfl V rfl V)<|AG fun b3=>Ze (Eg (by_:=16) (sz:=1) (news:=[_]) DH (V:Tryz.prog.info? 9=some Tryz.t9) V rfl V rfl Y I Y Wo Wh Ax V G0 B0 A0 A0) ?_;rintro _ _ ⟨sw,G,rfl⟩;obtain ⟨gw,cw,rfl⟩:=G.form;refine A5 Y<|Zg<|Zm Y<|AW Y<|A8<|Zn [0,1,6] ?_;refine Aa (e':=[(0,_),(1,_),(6,_)]) (by exact ⟨l2.take (DY l2.length),i2,_,_,o++[Dl (l2.drop (DY l2.length))],_,_,(by rw [g]),⟨(by rw [g];exact X),by rw [g];omega,fun s h=>J s (P2 h),by rw [B,Qn h9 A0,mN,Cd];rfl,Ba G B4 (by simp;rfl),by rw [BW,g];simp;omega⟩,(by rw [g]),rfl⟩)
def yi(s:Bs):Bool:=!decide (s.length=32)
def nb(s:Bs):Nat->Nat->List Bs->Option Bs
 |n,_,[]=>if n<=1 then some (ZR s)else none
 |n,i,x::rp=>if n<=1 then none else if i<DY n then(nb s (DY n) i rp).map (fun v=>JH v x)else(nb s (n -DY n) (i -DY n) rp).map (fun v=>JH x v)
def xv(root:Bs)(n i:Nat)(s:Bs)(pf:List Bs):Bool:=!(pf.any yi)&&decide (nb s n i pf.reverse=some root)
def QS(r:AU):Bs:=Hy [r.t,r.k]++Hy [r.v.a,r.v.b,r.v.c]
variable{r:AU}
theorem XD(h:r.ok):(∀n∈[r.t,r.k],-4611686018427387903<=n/\n<=4611686018427387903)/\(∀n∈[r.v.a,r.v.b,r.v.c],-4611686018427387903<=n/\n<=4611686018427387903):=by
 obtain ⟨⟨m,h2,B⟩,G,I⟩:=h;unfold inV at m h2 B;constructor
 · intro n g
   simp only [DB,Pr,P0]at g;rcases g with rfl|rfl<;>omega
 · intro n g
   simp only [DB,Pr,P0]at g;rcases g with rfl|rfl|rfl<;>omega
theorem iI(h:r.ok):(QS r).length<=45:=by
 have g:=Hw _ (XD h).1;have h2:=Hw _ (XD h).2
 unfold QS;rw [BW];simp only [E4,Ks]at g h2;omega
theorem ug(a b:Int):LQ #[I0 a,I0 b] 0 [a,b]:=by
 intro i n h;rcases i with _|_|i
 · simp at h;subst h;rfl
 · simp at h;subst h;rfl
 · simp at h
theorem yY(r:AU):LQ r.A94 2 [r.v.a,r.v.b,r.v.c]:=by
 intro i n h;rcases i with _|_|_|i
 · simp at h;subst h;rfl
 · simp at h;subst h;rfl
 · simp at h;subst h;rfl
 · simp at h
theorem lN(r:AU)(G:r.ok):BJ prog 188 #[.agg r.A94] [] (.tuple #[.string (str (QS r)),I0 0]):=by
 have g:=XD G;have m:=Hw _ g.1
 have B:=Hw _ g.2;simp only [E4,Ks]at m B;refine Se func188 ntmps188 [0] ?_;intro u R;refine A1<|Ze (Bx #[_,_,_,_,_])<|AG fun I=>Za Y<|A5 Y<|Zq<|A1<|Zo Wh (Pa #[_,_,_,_,_] Cp B3 Y)<|Xr [_] Y call195 Y V (SN r) ?_;rw [D2 G];refine Zv (Br Y)<|A6<|AQ Y (fun hv=>by cases hv)<|fun hv=>AC<|Zx<|Zq<|Aw (n:=12) (0::1::0::4::15::31::0::64::255::511::1023::2047::[]) 304 AF AF V<|A3 0 V (AA (off:=0) Fo V rfl AE Y)<|BE 1 V AH Y<|A3 2 V (AA (off:=1) Fo V rfl AE Y)<|BE 3 V AH Y<|A3 6 V (AA (off:=2) Fo V rfl E0 Y)<|A3 7 V (Ik I3 AE Y)<|Zz (l:=[4])<|B7 [false,false] [] V rfl (Ai (vs:=[_,_]) (cs:=[_,_]) DG AE HI Y V rfl V rfl V) ?_ (fun _ _ h=>h.elim) Ah;rintro _ _ ⟨gb,rfl,rfl⟩;refine Bk<|Yw 5 255 V (Zu [_] Y call235 Y V (qy gb 0 2 _ _ _ [r.t,r.k] (ug r.t r.k) B4 g.1))<|D0<|Yw 8 511 V (Zu [_] Y call235 Y V (qy I 2 3 _ _ _ [r.v.a,r.v.b,r.v.c] (yY r) B4 g.2))<|D0<|A3 9 rfl (Ml Y Y (by rw [Gs,Gs];omega))<|A3 10 rfl (Aq Y)<|A3 11 rfl (Aq Y)<|Ag<|Zn [2,3] ?_;refine Zx<|AJ<|DF rfl results188 Y Y (by exact ⟨by rw [RY];rfl,rfl⟩)
def BP(rs:List AU)(t:Int)(c:Nat):List AU:=Dm rs t c (-1000000000) 1000000000
theorem JG{rs:List AU}(g:BN rs)(t:Int)(c:Nat):(BP rs t c).length<=rs.length:=by
 unfold BP;rw [(ES rs t c _ _).length_eq];exact NO _ _
theorem Q5{rs:List AU}{t:Int}{c:Nat}{lo hi:Int}(h:r∈Dm rs t c lo hi):r∈rs:=(FG.1 ((ES rs t c lo hi).mem_iff.1 h)).1
def PQ(l:List AU):List Bs:=l.map QS
theorem Ic(l:List AU):(PQ l).length=l.length:=B6 ..
theorem vQ{l:List AU}{x:AU}(h:l[i]?=some x):(PQ (l.take (i+1))).map GA=(PQ (l.take i)).map GA++[.string (str (QS x))]:=by
 rw [Bl h];unfold PQ;rw [C0,C0];rfl
def wQ(l:List AU)(vr ve:A4)(sr se:List A9):Prop:=Bc 5 80 vr (l).length (Ae (l)) sr/\Bc 1 9 ve l.length ((PQ l).map GA) se
theorem TN(v:A4)(p:Int)(rs:List AU)(s:List A9)(hv:PY v p rs s)(hs:BN rs)(hn:rs.length<=2000)(af:∀r∈rs,r.ok)(t:Int)(c:Nat)(hc:c<=3):
 BS prog 139 #[v,I0 t,I0 (c:Int)] [s] (fun r H'=>∃vr K W J,r= .agg #[vr,K]/\wQ (BP rs t c) vr K W J/\H'=[W,J,s]):=by
 have ek:=mL;have dn:=JG hs t c
 refine Se func139 ntmps139 [0,1,2] ?_;intro u R;refine A1<|Ze (Al ie #[_,_])<|AG fun qb=>A6<|A1<|Zm Y<|Zm Y<|Zm Y<|Zc [_,_,_,_,_] Y call60 Y V (YO v p rs s hv t c (-1000000000) 1000000000 hc) ?_;rintro _ _ ⟨_,⟨W,G,rfl⟩,rfl⟩;change Bc 5 80 _ (BP rs t c).length (Ae (BP rs t c)) W at G;obtain ⟨qr,cr,rfl⟩:=G.form;have X:=Cy G A0
 obtain ⟨p9,bn,e9,gm,hg⟩:=id X;injection e9 with e91 e92 e93
 subst e91 e93;refine Zv (BM (vs:=[(0,_)]) (cs:=#[_,_]) Y (AZ (pl:=#[(0,1),(1,1)]) ie RC (fun _=>by kernel_rfl) V))<|Ze (Al ie #[_,_])<|AG fun ob=>Xe (BL ew Y Y (by(simp [Value.oneCell',Value.cells];done)) Wu (by exact (rfl:_=(#[.slice qr (BP rs t c).length cr,.slice none 0 0]:AM))) Fi B0 (by exact BC _))<|A6<|Zq<|A1<|Zh 0 RC rfl rfl D3 Y<|Zl GF Y<|Zv (Ab C1 Y)<|Zm Y<|A6<|AR<|Be<|Zb [20,6,7,18,19] ?_;refine BF (e0:=[(20,_)]) (fun m e H=>∃(i:Nat) (K:A4) (J:List A9),m=(BP rs t c).length -i/\(i<=(BP rs t c).length/\Bc 1 9 K i ((PQ ((BP rs t c).take i)).map GA) J)/\e=[(20,I0 (i:Int))]/\H=[[(ob,.cells #[.slice qr (BP rs t c).length cr,K] 247 (0,0))],J]) (by exact ⟨0,.slice none 0 0,[],V,⟨C7 _,Bi 1 _⟩,V,V⟩) Wp ?_;rintro _ _ _ ⟨i,K,J,rfl,⟨hi,B⟩,rfl,rfl⟩;obtain ⟨qe,ce,rfl⟩:=B.form;refine A1<|Zv (Ay Y Y)<|A6<|Zq<|Av Y (fun U=>?_) (fun U=>?_);·
  obtain ⟨x,hx⟩:∃x,(BP rs t c)[i]?=some x:=⟨_,BT U⟩;obtain ⟨g,off,cur,T,zz,rfl,Z,cu,O⟩:=hg i x hx;have ax:=af x (Q5 (DO hx))
  refine AC<|Zx<|Zq<|AR<|A1<|BZ (Ad C1 B3 Y Y A0)<|CS (cs:=[(g,.cells cur T zz)]) (by simp [Z]) (AB (cs:=x.A94) Cp B3 Y A0 O) V rfl<|Ze (Al EV #[_,_,_,_,_])<|AG fun xb=>Xe (Xw B3 x.A94)<|A6<|A1<|Zo Wh (Pa #[_,_,_,_,_] Cp B3 Y)<|Xr [_] Y call188 Y V (lN x ax)<|Zm Y<|Zd Y V<|Zd Y V<|Za Y<|A5 Y<|Zg<|Zh 1 RC V rfl IF Y<|Zl LS Y<|Zm Y<|Ze (Ai (vs:=[_]) (cs:=[_]) DH Fk HT Y V rfl V rfl V)<|AG fun b4=>Ze (Eg (by_:=16) (sz:=1) (news:=[_]) DH (V:Tryz.prog.info? 9=some Tryz.t9) V rfl V rfl Y B Y Wo Wh Ax V G0 B0 A0 A0) ?_;rintro _ _ ⟨gq,I,rfl⟩;obtain ⟨d9,cO,rfl⟩:=I.form;refine Zh 1 RC V rfl IF Y<|Xe (Zs IF Y Y V (hc:=by exact (V:_=(#[.slice _ (BP rs t c).length cr,_]:AM))) (hi:=by(simp;done)))<|Z0<|Zn [6,7,18,19,20] ?_;refine A8<|Zx<|Zg<|Ya (n:=1) Y Y<|Zm Y<|Z0<|Zn [20,6,7,18,19] ?_;refine Aa (e':=[(20,_)]) (by exact ⟨i+1,_,_,rfl,⟨by omega,Ba I rfl (by rw [vQ hx])⟩,rfl,rfl⟩)
 have ei:i=(BP rs t c).length:=by omega
 subst ei;rw [GC]at B;refine Az<|Zt<|Zt<|AV<|Zx<|A1<|Zo Wh (AB (cs:=#[_,_]) isAgg247 ew Y B5 Ax)<|Xe (BL ew Y Y (by(simp [Value.oneCell',Value.cells];done)) Wu (by exact (rfl:_=(#[.slice qr (BP rs t c).length cr,.slice qe _ ce]:AM))) Fi B0 (by exact BC _))<|A6<|AJ<|D7 rfl results139 Y Wh (Au isAgg247 ew Wn (rfl)) (by exact ⟨.slice qr _ cr,.slice qe _ ce,W,J,rfl,⟨G,B⟩,rfl⟩)
theorem ZH(v:A4)(p:Int)(rs:List AU)(s:List A9)(hv:PY v p rs s)(K:BN rs)(J:rs.length<=2000)(I:∀r∈rs,r.ok)(t:Int)(c:Nat)(hc:c<=3):
 BS prog 139 #[v,I0 t,I0 (c:Int)] [s] (fun r H'=>∃G B m g,r= .agg #[G,B]/\wQ (BP rs t c) G B m g/\H'=[m++g,s]):=by
 refine Ga (TN v p rs s hv K J I t c hc) V ?_;rintro r H' ⟨G,B,m,g,rfl,h,rfl⟩;exact ⟨_,⟨G,B,m,g,V,h,V⟩,by simp⟩
def tcs:List (Nat×Nat):=(List.range 4).flatMap fun t=>(List.range 4).map fun c=>(t,c)
theorem w7:∀t,t<4->∀c,c<4->tcs[4*t+c]?=some (t,c):=by decide
def nc(rs:List AU)(x:Nat×Nat):Bs:=UD ((BP rs (x.1:Int) x.2).length:Int)++Dl (PQ (BP rs (x.1:Int) x.2))
def YK(rs:List AU):List Bs:=tcs.map (nc rs)
def zr(rs:List AU)(x:Nat×Nat)(vs:AM)(sx:List A9):Prop:=∃vr ve sr se,vs=#[.agg #[vr,ve]]/\wQ (BP rs (x.1:Int) x.2) vr ve sr se/\sx=sr++se
theorem kM{l:List AU}(h:∀r∈l,r.ok):∀s∈PQ l,s.length<=45:=by
 intro s m;obtain ⟨r,g,rfl⟩:=C6.1 m;exact iI (h r g)
theorem ZF(q:B8):BS prog 189 #[.pointer q] [] (fun r H'=>∃b,r= .func (.func 236) #[] #[I1 b]/\H'=[[(b,.cells #[.pointer q] 66 (0,0))]]):=by
 refine Se func189 ntmps189 [0] ?_;intro u R;refine A1<|Ze (Bx #[_])<|AG fun b=>A5 Y<|A1<|Zv (Bf (vs:=[]) (us:=[_]) Y Y)<|A5 Y<|AJ<|AP V results189 Y (by exact ⟨_,V,V⟩)
theorem ZG(v:A4)(p:Int)(rs:List AU)(s:List A9)(hv:PY v p rs s)(hs:BN rs)(hn:rs.length<=2000)(W:∀r∈rs,r.ok)(b:Nat):
 Wi prog 236 #[I1 b] [[(b,.cells #[v] 66 (0,0))]] [s] (zr rs) tcs:=by
 have af:=mL;intro l J hy s0 hJ;refine Se func236 ntmps236 [0,1] ?_;intro u R;refine A1<|Zm Y<|A6<|AR<|Zb [5,0,1] ?_;refine BF (e0:=[(5,_)]) (fun m e H=>∃(t:Nat) (s2:List A9),m=4 -t/\(t<=4/\J (tcs.take (4*t)) s2)/\e=[(5,I0 (t:Int))]/\H=[s2]) (by exact ⟨0,s0,V,⟨by omega,hJ⟩,V,V⟩) Wp ?_;rintro _ _ _ ⟨t,s2,rfl,⟨ht,g⟩,rfl,rfl⟩;refine A1<|Zv (Ay (n:=4) Y Y)<|A6<|Zq<|Av Y (fun I=>?_) (fun I=>?_);·
  refine AC<|Zx<|Zq<|AR<|A1<|Zm Y<|A5 Y<|A1<|Zm Y<|A6<|AR<|Zb [8,0,1,3,5] ?_;refine BF (e0:=[(8,_)]) (fun m e H=>∃(c:Nat) (K:List A9),m=4 -c/\(c<=4/\J (tcs.take (4*t+c)) K)/\e=[(8,I0 (c:Int))]/\H=[K]) (by exact ⟨0,s2,V,⟨by omega,g⟩,V,V⟩) Wp ?_;rintro _ _ _ ⟨c,K,rfl,⟨hc,B⟩,rfl,rfl⟩;refine A1<|Zv (Ay (n:=4) Y Y)<|A6<|Zq<|Av Y (fun G=>?_) (fun G=>?_);·
   have hx:=w7 t I c G;refine AC<|Zx<|Zq<|AR<|A1<|Zm Y<|A5 Y<|A1<|Zm Y<|Zl isAgg66 Y<|Zm Y<|Zm Y<|Zc [_,_,_] Y call139 Y V (ZH v p rs s hv hs hn W (t:Int) c A0) ?_;rintro _ _ ⟨_,⟨vr,ve,sr,se,rfl,hO,rfl⟩,rfl⟩;have X:=hy _ _ _ K #[.agg #[vr,ve]] (sr++se) (K6 hx) B ⟨vr,ve,sr,se,rfl,hO,rfl⟩
   refine Ze (Ff (vs:=[_]) Y Y (X) Wp) ?_;rintro _ _ ⟨_,⟨s4,rfl,rfl,U⟩,rfl⟩;refine Zv (Br Y)<|A6<|AQ Y (fun Z=>by cases Z)<|fun Z=>AC<|A8<|Zx<|Zg<|Ya (n:=1) Y Y<|Zm Y<|Z0<|Zn [8,0,1,3,5] ?_;refine Aa (e':=[(8,_)]) (by exact ⟨c+1,s4,rfl,⟨by omega,by rw [<-kB,Bl hx];exact U⟩,rfl,rfl⟩)
  refine Az<|Zt<|Zt<|AV<|A8<|Zx<|Zg<|Ya (n:=1) Y Y<|Zm Y<|Z0<|Zn [5,0,1] ?_;refine Aa (e':=[(5,_)]) (by exact ⟨t+1,K,rfl,⟨by omega,by rw [Nat.mul_add,N0];have O:c=4:=A0;subst O;exact B⟩,rfl,rfl⟩)
 have O:t=4:=by omega
 subst O;refine Az<|Zt<|Zt<|AV<|Cc V results236 (by exact ⟨s2,V,g⟩)
theorem VI(v:A4)(p:Int)(rs:List AU)(s:List A9)(hv:PY v p rs s)(hs:BN rs)(hn:rs.length<=2000)(O:∀r∈rs,r.ok)(W:AK)(zg:Nat×Nat):
 BS prog 145 #[v] [[(4,.cells (Ez.map Cw).toArray W zg)],s] (fun r H'=>∃so,Bc 1 9 r 16 ((YK rs).map GA) so/\H'=[so,[(4,.cells (Ez.map Cw).toArray W zg)],s]):=by
 have ic:=mL;obtain ⟨l5,kv,gq,ek,j5,rfl,d9⟩:=id hv;refine DT func145 V ntmps145 V ?_;intro u R;refine Zb [0] ?_;refine A1<|A5 Y<|A1<|Ze (Al cV #[_])<|AG fun ob=>A6<|Zq<|A1<|Zm Y<|Zc [_] Y call189 Y V (ZF _) ?_;rintro _ _ ⟨_,⟨bb,rfl,rfl⟩,rfl⟩;refine A6<|AR<|Zb [3,8] ?_;refine Be<|Y1 (H0:=_) (R:=_) (I:=(fun pre H=>∃Z s2,H=[[(ob,.cells #[Z] 52 (0,0))],s2,[(4,.cells (Ez.map Cw).toArray W zg)]]/\Bc 1 9 Z pre.length ((pre.map (nc rs)).map GA) s2)) (E:=fun x vs sx e Hn=>∃X J G,vs=#[.agg #[J,G]]/\e=[(4,I1 X),(9,.agg #[J,G])]/\Hn=[[(X,.cells #[J,G] 247 (0,0))]]) rfl Y call236 (ZG _ p rs s hv hs hn O bb) (fun x vs sx h=>by obtain ⟨J,G,sr,se,rfl,_⟩:=h;rfl) rfl Wp (⟨_,[],rfl,Bi 1 _⟩) ?ha_2 ?hbd_2 ?hk_2
 case ha_2=>
  intro _ x vs sx _ _ g;obtain ⟨J,G,sr,se,rfl,K,rfl⟩:=g;refine Zg<|Ze (Al ie #[_,_])<|AG fun X=>Xe (BL ew Y Y (by obtain ⟨q1,c1,rfl⟩:=K.1.form;obtain ⟨q2,c2,rfl⟩:=K.2.form;simp [Value.oneCell',Value.cells]) Wu (by exact (rfl:_=(#[J,G]:AM))) Fi B0 (by exact BC _)) ?_;refine Z0<|Ku (e:=[(4,_),(9,_)]) (Hn:=[[(_,_)]]) ?_;exact ⟨_,_,_,V,V,V⟩
 case hbd_2=>
  intro l pre x post u vs sx e9 dn H1 R1 cO hI g af;obtain ⟨J,G,sr,se,rfl,K,rfl⟩:=g;obtain ⟨X,o8,l9,U,rfl,rfl⟩:=af;simp at U;obtain ⟨rfl,rfl⟩:=U;obtain ⟨Z,s2,rfl,m⟩:=hI;obtain ⟨qe,ce,rfl⟩:=K.2.form;obtain ⟨q2,c2,rfl⟩:=m.form;have cu:=congrArg List.length cO
  rw [BW,E4,show tcs.length=16 from rfl]at cu;have j3:=JG hs (x.1:Int) x.2
  have bn:Ed (sr++se) (.slice qe (BP rs (x.1:Int) x.2).length ce) (PQ (BP rs (x.1:Int) x.2)):=(Ho (Ba K.2 (Ic _).symm rfl) (by rw [Ic];omega)).mono (fun c h=>GB _ h);refine AR<|A1<|Zh 1 RC V rfl IF Y<|Zl LS Y ?_;refine Zv (Ab DH Y)<|Xr [_] Y call190 Y V (Qm _ A0 A0) ?_;refine Zm Y<|Zd Y V<|Zd Y V<|Za Y<|A5 Y<|Aw (n:=9) (0::0::0::4::12::30::62::127::255::[]) 464 AF AF V<|BE 0 V LS Y ?_;refine A3 1 V (AO Y)<|A3 2 V (AA (off:=1) RC V rfl IF Y)<|BE 3 V LS Y ?_;refine Yz 4 12 31 [3,0] [false,true] [(0,(_,_))] rfl Y rfl rfl rfl rfl (Zu [_] Y call191 Y rfl (Pz bn (by rw [Ic];omega) (fun s h=>by have:=kM (fun r hr=>O r (Q5 hr)) s h;omega) W zg))<|D0<|Bk<|A3 5 rfl (Ml Y Y (by rw [Gs,Gs,Ll];have:=PR ((BP rs (x.1:Int) x.2).length:Int) A0 A0;omega))<|Yz 6 62 127 [0] [true] [(0,(_,_))] rfl Y rfl rfl rfl rfl (Ai (vs:=[_]) (cs:=[_]) DH Fk HT Y rfl rfl rfl rfl rfl)<|AG fun b3=>Bk<|Yw 7 255 V (Eg (by_:=16) (sz:=1) (news:=[_]) DH (V:Tryz.prog.info? 9=some Tryz.t9) V rfl V rfl Y m Y Wo Wh Ax V G0 B0 A0 A0) ?_;rintro _ _ ⟨l8,B,rfl⟩;obtain ⟨gy,gm,rfl⟩:=B.form;refine Yw 8 511 V (Zs IF Y Y V (hi:=by(simp;done)))<|D0<|Ag<|Zn [] ?_;refine A8<|Ei V (by exact ⟨_,_,V,Ba B B4 (by simp [nc,GA,RY])⟩)
 intro D1 H2 ax;obtain ⟨Z,s2,rfl,m⟩:=ax;refine Zn [3] ?_;refine A8<|Zx<|A1<|Zl LS Y ?_;refine A5 Y<|AJ<|Fw V (eG results145 Y) Wo (by exact ⟨s2,m,V⟩)
def Cg(pd:AU->Bool)(l:List AU):Nat:=(l.takeWhile (fun x=>!pd x)).length
theorem Gz(g:AU->Bool)(l:List AU):Cg g l<=l.length:=(List.takeWhile_sublist _).length_le
theorem U5{g:AU->Bool}:∀{l:List AU} {i:Nat} {x:AU},l[i]?=some x->g x=true->(∀(j:Nat) (y:AU),j<i->l[j]?=some y->g y=false)->Cg g l=i
 |[],i,x,hx,_,_=>by simp at hx
 |z::l,0,x,hx,hp,_=>by
  simp only [bm,Wk]at hx;subst hx;simp [Cg,hp]
 |z::l,i+1,x,hx,hp,hno=>by
  simp only [bj]at hx;have h0:=hno 0 z A0 rfl
  have m:=U5 (l:=l) hx hp (fun j y G B=>hno (j+1) y A0 B);unfold Cg at m⊢;rw [PC,As (by simp [h0]),E4,m]
theorem Ny{m:AU->Bool}:∀{l:List AU},(∀(j:Nat) (y:AU),l[j]?=some y->m y=false)->Cg m l=l.length
 |[],_=>rfl
 |z::l,hno=>by
  have h0:=hno 0 z rfl;have g:=Ny (l:=l) (fun j y B=>hno (j+1) y B)
  unfold Cg at g⊢;rw [PC,As (by simp [h0]),E4,g,E4]
def RI(n len:Nat):Int:=if n<len then(n:Int)else-1
def geV(c:Nat)(lo:Int)(r:AU):Bool:=decide (lo<=Dh r c)
def gtV(c:Nat)(hi:Int)(r:AU):Bool:=decide (hi<Dh r c)
theorem wa(v lo:Int)(bl:Nat):BJ prog 143 #[I0 v,I1 bl] [[(bl,.cells #[I0 lo] 3 (0,0))]] (.bool (decide (lo<=v))):=by
 refine Se func143 ntmps143 [0,1] ?_;intro u R;refine A1<|A5 Y<|A1<|Zm Y<|Zl AH Y<|Zv (GV Y Y)<|A5 Y<|AJ<|AP V results143 Y (by exact ⟨V,V⟩)
theorem ye(r:AU)(c:Nat)(hc:c<=3)(lo:Int)(m g bl:Nat):BJ prog 142 #[.agg r.A94,I1 m,I1 g] [[(m,.cells #[.func (.func 143) #[] #[I1 bl]] 86 (0,0))],[(g,.cells #[I0 (c:Int)] 3 (0,0))],[(bl,.cells #[I0 lo] 3 (0,0))]] (.bool (geV c lo r)):=by
 refine Se func142 ntmps142 [0,1,2] ?_;intro u R;refine A1<|Ze (Bx #[_,_,_,_,_])<|AG fun B=>A5 Y<|Zq<|Aw (n:=6) (0::0::0::6::15::31::[]) 24 AF AF V<|BE 0 V isAgg86 Y ?_;refine FF 1 V Wh (Pa #[_,_,_,_,_] Cp B3 Y) ?_;refine BE 2 V AH Y ?_;refine Yz 3 6 15 [2,1,0] [false,false,true] [(0,(_,_))] V Y V rfl V rfl (Zu [_,_] Y RM Y V (OZ r c hc))<|D0<|Bk<|Yw 4 31 V (Zu [_] Y call143 Y V (wa (Dh r c) lo bl))<|D0<|A3 5 V (Aq Y)<|Ag<|Zx<|AJ<|AP V results142 Y (by exact ⟨V,V⟩)
variable{L:List AU}
theorem yv(hv:Di M v L)(hn:L.length<=1000000)(c:Nat)(hc:c<=3)(lo:Int)(O K bl:Nat):BJ prog 141 #[v,.func (.func 142) #[] #[I1 O,I1 K]] [[(O,.cells #[.func (.func 143) #[] #[I1 bl]] 86 (0,0))],[(K,.cells #[I0 (c:Int)] 3 (0,0))],[(bl,.cells #[I0 lo] 3 (0,0))],M] (I0 (RI (Cg (geV c lo) L) L.length)):=by
 have ax:=mL;obtain ⟨p,cap,rfl,hl,hg⟩:=hv;refine Se func141 ntmps141 [0,1] ?_;intro u R;refine A1<|A5 Y<|Zq<|A1<|Zm Y<|Zv (Ab C1 Y)<|Zm Y<|A6<|AR<|Zb [8,0,1,7] ?_;refine BF (e0:=[(8,_)]) (fun m e H=>∃(i:Nat),m=L.length -i/\(i<=L.length/\∀(j:Nat) (y:AU),j<i->L[j]?=some y->geV c lo y=false)/\e=[(8,I0 (i:Int))]/\H=[]) (by exact ⟨0,V,⟨C7 _,by intro j y hj;omega⟩,V,V⟩) Wp ?_;rintro _ _ _ ⟨i,rfl,⟨hi,I⟩,rfl,rfl⟩;refine A1<|Zv (Ay Y Y)<|A6<|Zq<|Av Y (fun G=>?_) (fun G=>?_);·
  obtain ⟨x,Z⟩:∃x,L[i]?=some x:=⟨_,BT G⟩;obtain ⟨g,off,cur,T,zz,rfl,W,af,J⟩:=hg i x Z;refine AC<|Zx<|Zq<|AR<|A1<|Zm Y<|A5 Y<|A1<|Zm Y<|Zm Y<|Zm Y<|BZ (Ad C1 B3 Y Y A0)<|CS (cs:=[(g,.cells cur T zz)]) (by simp [W]) (AB (cs:=x.A94) Cp B3 Y A0 J) V rfl<|Xr [_] Y call142 Y V (ye x c hc lo O K bl)<|A6<|AQ Y (fun X=>?_) (fun X=>?_);·
   refine A1<|Zm Y<|A5 Y<|AJ<|Ac<|Zt<|Zt<|Ac<|Zt<|AP rfl ec Y (by exact ⟨by rw [U5 Z X I];unfold RI;rw [As G],rfl⟩)
  refine AC<|A8<|Zx<|Zg<|Ya (n:=1) Y Y<|Zm Y<|Z0<|Zn [8,0,1,7] ?_;refine Aa (e':=[(8,_)]) (by exact ⟨i+1,rfl,⟨by omega,fun j y hj B=>by rcases FA j i with h9|h9;exact I j y h9 B;obtain rfl:j=i:=A0;rw [Z]at B;injection B with B;rw [<-B];exact X⟩,rfl,rfl⟩)
 have U:Cg (geV c lo) L=L.length:=Ny (fun j y B=>I j y (by have:=(C4.1 B).1;omega) B);refine Az<|Zt<|Zt<|AV<|Zx<|A1<|A5 Y<|AJ<|AP rfl ec Y (by exact ⟨by rw [U];unfold RI;rw [An A0],rfl⟩)
theorem we{J X:A4}(hv:Di M J L)(W:L.length<=1000000)(c:Nat)(hc:c<=3)(lo:Int)(I m bl:Nat):BJ prog 140 #[.func (.func 143) #[] #[I1 bl],I1 I,I1 m] [[(I,.cells #[J,X] 247 (0,0))],[(m,.cells #[I0 (c:Int)] 3 (0,0))],[(bl,.cells #[I0 lo] 3 (0,0))],M] (I0 ((Cg (geV c lo) L:Nat):Int)):=by
 have U:=mL;obtain ⟨p,cap,rfl,hl,Z⟩:=id hv;have O:=Gz (geV c lo) L
 refine Se func140 ntmps140 [0,1,2] ?_;intro u R;refine A1<|Ze (Bx #[_])<|AG fun K=>A5 Y<|A1<|Zh 0 RC V rfl D3 Y<|Zl GF Y<|Zv (Bf (vs:=[]) (us:=[_,_]) Y Y)<|Xr [_,_] Y call141 Y V (yv hv W c hc lo K m bl)<|A5 Y<|Zq<|A1<|Zm Y<|Zv (EI Y Y)<|A6<|Av Y (fun g=>?_) (fun g=>?_);·
  have B:Cg (geV c lo) L=L.length:=by
   rcases FA (Cg (geV c lo) L) L.length with h9|h9
   · unfold RI at g;rw [As h9]at g;omega
   · omega
  refine A1<|Zh 0 RC V rfl D3 Y<|Zl GF Y<|Zv (Ab C1 Y)<|AW Y<|Zn [4] ?_;refine Zx<|AJ<|Zt<|AP rfl results140 Y (by exact ⟨by rw [B],rfl⟩)
 have G:Cg (geV c lo) L<L.length:=by
  rcases FA (Cg (geV c lo) L) L.length with h9|h9
  · exact h9
  · unfold RI at g;rw [An A0]at g;omega
 refine AC<|Zx<|A1<|Zm Y<|A5 Y<|AJ<|AP rfl results140 Y (by exact ⟨by unfold RI;rw [As G],rfl⟩)
theorem wZ(v lo:Int)(bl:Nat):BJ prog 144 #[I0 v,I1 bl] [[(bl,.cells #[I0 lo] 3 (0,0))]] (.bool (decide (lo<v))):=by
 refine Se func144 ntmps144 [0,1] ?_;intro u R;refine A1<|A5 Y<|A1<|Zm Y<|Zl AH Y<|Zv (Ef Y Y)<|A5 Y<|AJ<|AP V results144 Y (by exact ⟨V,V⟩)
theorem yd(r:AU)(c:Nat)(hc:c<=3)(lo:Int)(m g bl:Nat):BJ prog 142 #[.agg r.A94,I1 m,I1 g] [[(m,.cells #[.func (.func 144) #[] #[I1 bl]] 86 (0,0))],[(g,.cells #[I0 (c:Int)] 3 (0,0))],[(bl,.cells #[I0 lo] 3 (0,0))]] (.bool (gtV c lo r)):=by
 refine Se func142 ntmps142 [0,1,2] ?_;intro u R;refine A1<|Ze (Bx #[_,_,_,_,_])<|AG fun B=>A5 Y<|Zq<|Aw (n:=6) (0::0::0::6::15::31::[]) 24 AF AF V<|BE 0 V isAgg86 Y ?_;refine FF 1 V Wh (Pa #[_,_,_,_,_] Cp B3 Y) ?_;refine BE 2 V AH Y ?_;refine Yz 3 6 15 [2,1,0] [false,false,true] [(0,(_,_))] V Y V rfl V rfl (Zu [_,_] Y RM Y V (OZ r c hc))<|D0<|Bk<|Yw 4 31 V (Zu [_] Y call144 Y V (wZ (Dh r c) lo bl))<|D0<|A3 5 V (Aq Y)<|Ag<|Zx<|AJ<|AP V results142 Y (by exact ⟨V,V⟩)
theorem yr(hv:Di M v L)(hn:L.length<=1000000)(c:Nat)(hc:c<=3)(lo:Int)(O K bl:Nat):BJ prog 141 #[v,.func (.func 142) #[] #[I1 O,I1 K]] [[(O,.cells #[.func (.func 144) #[] #[I1 bl]] 86 (0,0))],[(K,.cells #[I0 (c:Int)] 3 (0,0))],[(bl,.cells #[I0 lo] 3 (0,0))],M] (I0 (RI (Cg (gtV c lo) L) L.length)):=by
 have ax:=mL;obtain ⟨p,cap,rfl,hl,hg⟩:=hv;refine Se func141 ntmps141 [0,1] ?_;intro u R;refine A1<|A5 Y<|Zq<|A1<|Zm Y<|Zv (Ab C1 Y)<|Zm Y<|A6<|AR<|Zb [8,0,1,7] ?_;refine BF (e0:=[(8,_)]) (fun m e H=>∃(i:Nat),m=L.length -i/\(i<=L.length/\∀(j:Nat) (y:AU),j<i->L[j]?=some y->gtV c lo y=false)/\e=[(8,I0 (i:Int))]/\H=[]) (by exact ⟨0,V,⟨C7 _,by intro j y hj;omega⟩,V,V⟩) Wp ?_;rintro _ _ _ ⟨i,rfl,⟨hi,I⟩,rfl,rfl⟩;refine A1<|Zv (Ay Y Y)<|A6<|Zq<|Av Y (fun G=>?_) (fun G=>?_);·
  obtain ⟨x,Z⟩:∃x,L[i]?=some x:=⟨_,BT G⟩;obtain ⟨g,off,cur,T,zz,rfl,W,af,J⟩:=hg i x Z;refine AC<|Zx<|Zq<|AR<|A1<|Zm Y<|A5 Y<|A1<|Zm Y<|Zm Y<|Zm Y<|BZ (Ad C1 B3 Y Y A0)<|CS (cs:=[(g,.cells cur T zz)]) (by simp [W]) (AB (cs:=x.A94) Cp B3 Y A0 J) V rfl<|Xr [_] Y call142 Y V (yd x c hc lo O K bl)<|A6<|AQ Y (fun X=>?_) (fun X=>?_);·
   refine A1<|Zm Y<|A5 Y<|AJ<|Ac<|Zt<|Zt<|Ac<|Zt<|AP rfl ec Y (by exact ⟨by rw [U5 Z X I];unfold RI;rw [As G],rfl⟩)
  refine AC<|A8<|Zx<|Zg<|Ya (n:=1) Y Y<|Zm Y<|Z0<|Zn [8,0,1,7] ?_;refine Aa (e':=[(8,_)]) (by exact ⟨i+1,rfl,⟨by omega,fun j y hj B=>by rcases FA j i with h9|h9;exact I j y h9 B;obtain rfl:j=i:=A0;rw [Z]at B;injection B with B;rw [<-B];exact X⟩,rfl,rfl⟩)
 have U:Cg (gtV c lo) L=L.length:=Ny (fun j y B=>I j y (by have:=(C4.1 B).1;omega) B);refine Az<|Zt<|Zt<|AV<|Zx<|A1<|A5 Y<|AJ<|AP rfl ec Y (by exact ⟨by rw [U];unfold RI;rw [An A0],rfl⟩)
theorem wb{J X:A4}(hv:Di M J L)(W:L.length<=1000000)(c:Nat)(hc:c<=3)(lo:Int)(I m bl:Nat):BJ prog 140 #[.func (.func 144) #[] #[I1 bl],I1 I,I1 m] [[(I,.cells #[J,X] 247 (0,0))],[(m,.cells #[I0 (c:Int)] 3 (0,0))],[(bl,.cells #[I0 lo] 3 (0,0))],M] (I0 ((Cg (gtV c lo) L:Nat):Int)):=by
 have U:=mL;obtain ⟨p,cap,rfl,hl,Z⟩:=id hv;have O:=Gz (gtV c lo) L
 refine Se func140 ntmps140 [0,1,2] ?_;intro u R;refine A1<|Ze (Bx #[_])<|AG fun K=>A5 Y<|A1<|Zh 0 RC V rfl D3 Y<|Zl GF Y<|Zv (Bf (vs:=[]) (us:=[_,_]) Y Y)<|Xr [_,_] Y call141 Y V (yr hv W c hc lo K m bl)<|A5 Y<|Zq<|A1<|Zm Y<|Zv (EI Y Y)<|A6<|Av Y (fun g=>?_) (fun g=>?_);·
  have B:Cg (gtV c lo) L=L.length:=by
   rcases FA (Cg (gtV c lo) L) L.length with h9|h9
   · unfold RI at g;rw [As h9]at g;omega
   · omega
  refine A1<|Zh 0 RC V rfl D3 Y<|Zl GF Y<|Zv (Ab C1 Y)<|AW Y<|Zn [4] ?_;refine Zx<|AJ<|Zt<|AP rfl results140 Y (by exact ⟨by rw [B],rfl⟩)
 have G:Cg (gtV c lo) L<L.length:=by
  rcases FA (Cg (gtV c lo) L) L.length with h9|h9
  · exact h9
  · unfold RI at g;rw [An A0]at g;omega
 refine AC<|Zx<|A1<|Zm Y<|A5 Y<|AJ<|AP rfl results140 Y (by exact ⟨by unfold RI;rw [As G],rfl⟩)
theorem Qv(t c:Int):BJ prog 138 #[I0 t,I0 c] [] (.bool (decide ((0<=t/\t<4)/\0<=c/\c<4))):=by
 refine Se func138 ntmps138 [0,1] ?_;intro u R;refine A1<|A5 Y<|A1<|Zm Y<|Zv (GV Y Y)<|Zm Y<|Ao (t:=7) Y V (fun g=>?_) (fun g=>?_);·
  refine Zf Y Y<|Yg (EI Y Y)<|Zv (AX Y Y)<|Zm Y<|Ao (t:=11) Y V (fun h2=>?_) (fun h2=>?_);·
   refine Zf Y Y<|Yg (GV Y Y)<|Zv (AX Y Y)<|Zm Y<|Ao (t:=15) Y V (fun m=>?_) (fun m=>?_);·
    refine Zf Y Y<|Yg (EI Y Y)<|Zv (AX Y Y)<|AW Y<|Zn [4] ?_;refine Zx<|AJ<|AP V results138 Y (by exact ⟨by exact congrArg Value.bool (decide_eq_decide.2 A0),V⟩)
   refine A7 Y V<|A7 Y V<|Zv (AL Y Y)<|AW Y<|Zn [4] ?_;refine Zx<|AJ<|AP V results138 Y (by exact ⟨by exact congrArg Value.bool (Cl A0).symm,V⟩)
  refine A7 Y V<|A7 Y V<|Zv (AL Y Y)<|Zm Y<|A7 Y V<|A7 Y V<|Zv (AL Y Y)<|AW Y<|Zn [4] ?_;refine Zx<|AJ<|AP V results138 Y (by exact ⟨by exact congrArg Value.bool (Cl A0).symm,V⟩)
 refine A7 Y V<|A7 Y V<|Zv (AL Y Y)<|Zm Y<|A7 Y V<|A7 Y V<|Zv (AL Y Y)<|Zm Y<|A7 Y V<|A7 Y V<|Zv (AL Y Y)<|AW Y<|Zn [4] ?_;refine Zx<|AJ<|AP V results138 Y (by exact ⟨by exact congrArg Value.bool (Cl A0).symm,V⟩)
structure RP where
 tb:Int
 cl:Int
 lo:Int
 hi:Int
 ct:Int
 fi:Int
 rows:List AU
 paths:List (List Bs)
 roots:List Bs
deriving DecidableEq
def CR(L:List AU)(c:Nat)(lo:Int):Nat:=Cg (geV c lo) L -1
def toT(L:List AU)(c:Nat)(hi:Int):Nat:=min (Cg (gtV c hi) L+1) L.length
def Js(L:List AU)(f k:Nat):List (List Bs):=(List.range k).map fun j=>Fa (PQ L) (f+j)
def Ew(rs:List AU)(t c:Nat)(lo hi:Int):RP:=
 ⟨t,c,lo,hi,(BP rs (t:Int) c).length,(CR (BP rs (t:Int) c) c lo:Nat),((BP rs (t:Int) c).drop (CR (BP rs (t:Int) c) c lo)).take (toT (BP rs (t:Int) c) c hi -CR (BP rs (t:Int) c) c lo),
   Js (BP rs (t:Int) c) (CR (BP rs (t:Int) c) c lo) (toT (BP rs (t:Int) c) c hi -CR (BP rs (t:Int) c) c lo),YK rs⟩
def LP(M:List A9)(pvs:List A4)(ps:List (List Bs)):Prop:=pvs.length=ps.length/\∀(i:Nat) (v:A4) (l:List Bs),pvs[i]?=some v->ps[i]?=some l->Ed M v l
theorem Vh(M:List A9):LP M [] []:=⟨rfl,by intro i v l h;simp at h⟩
theorem LP.snoc{B:List A9}{g:List A4}{ps:List (List Bs)}(h:LP M g ps)(hv:Ed B v l)(I:∀c∈M,c∈B):LP B (g++[v]) (ps++[l]):=by
 obtain ⟨G,h2⟩:=h;refine ⟨by rw [BW,BW,G];rfl,?_⟩;intro i w k hi m;rcases FA i g.length with h9|h9
 · rw [Wa h9]at hi
   rw [Wa A0]at m;exact (h2 i w k hi m).mono I
 · rw [RT h9]at hi
   rw [RT A0]at m;rw [G]at hi;cases h:i -ps.length with
   |zero=>rw [h]at hi m;simp at hi m;rw [<-hi,<-m];exact hv
   |succ n=>rw [h]at hi;simp at hi
theorem Z6(L:List AU)(f k:Nat):Js L f (k+1)=Js L f k++[Fa (PQ L) (f+k)]:=by unfold Js;rw [kA,C0];rfl
theorem fD(L:List AU)(f k:Nat):(Js L f k).length=k:=by unfold Js;rw [B6,Wg]
theorem xm{n:Nat}{xs:List A4}{s:List A9}(h:Bc 1 e v n xs s):n<=maxLen:=by
 obtain ⟨_,⟨_,h0,_⟩|⟨_,_,_,_,_,_,g,h2,_⟩⟩:=h;· omega
 · omega
theorem YJ(rs:List AU):(YK rs).length=16:=by unfold YK;rw [B6];rfl
set_option maxHeartbeats 4000000 in
theorem eU(v:A4)(p:Int)(rs:List AU)(s:List A9)(hv:PY v p rs s)(hs:BN rs)(hn:rs.length<=2000)(ax:∀r∈rs,r.ok)(t c:Nat)(ht:t<=3)(hc:c<=3)(lo hi:Int)(qw:lo<=hi)(Tg:AK)(zg:Nat×Nat):
 BS prog 90 #[v,I0 (t:Int),I0 (c:Int),I0 lo,I0 hi] [[(4,.cells (Ez.map Cw).toArray Tg zg)],s] (fun r H'=>∃vr vp vt U sp J W so,r= .tuple #[.agg #[I0 (t:Int),I0 (c:Int),I0 lo,I0 hi,I0 (((BP rs (t:Int) c).length:Nat):Int),I0 (((CR (BP rs (t:Int) c) c lo):Nat):Int),vr,vp,vt],I0 0]/\Bc 5 80 vr (((BP rs (t:Int) c).drop (CR (BP rs (t:Int) c) c lo)).take ((toT (BP rs (t:Int) c) c hi) -(CR (BP rs (t:Int) c) c lo))).length (Ae (((BP rs (t:Int) c).drop (CR (BP rs (t:Int) c) c lo)).take ((toT (BP rs (t:Int) c) c hi) -(CR (BP rs (t:Int) c) c lo)))) U/\Bc 1 52 vp ((toT (BP rs (t:Int) c) c hi) -(CR (BP rs (t:Int) c) c lo)) J sp/\LP W J (Js (BP rs (t:Int) c) (CR (BP rs (t:Int) c) c lo) ((toT (BP rs (t:Int) c) c hi) -(CR (BP rs (t:Int) c) c lo)))/\Bc 1 9 vt 16 ((YK rs).map GA) so/\H'=[U,sp,W,so,[(4,.cells (Ez.map Cw).toArray Tg zg)],s]):=by
 have r9:=mL;obtain ⟨sO,sM,qa,q9,sJ,rfl,pq⟩:=id hv;have qz:=JG hs (t:Int) c
 have qj:=Gz (geV c lo) (BP rs (t:Int) c);have ql:=Gz (gtV c hi) (BP rs (t:Int) c)
 have qo:(CR (BP rs (t:Int) c) c lo)=Cg (geV c lo) (BP rs (t:Int) c) -1:=rfl;have sw:(toT (BP rs (t:Int) c) c hi)=min (Cg (gtV c hi) (BP rs (t:Int) c)+1) (BP rs (t:Int) c).length:=rfl
 refine Se func90 ntmps90 [0,1,2,3,4] ?_;intro u R;refine A1<|Ze (Bx #[_])<|AG fun bc=>Ze (Bx #[_])<|AG fun bl=>Ze (Bx #[_])<|AG fun bh=>Ze (Al cU #[_,_,_,_,_,_,_,_,_])<|AG fun qb=>A5 Y<|Zq<|AR<|A1<|Zm Y<|Zv (Bg i6 Y Y)<|A5 Y<|AQ Y (fun h1=>by cases h1)<|fun h1=>A1<|Zm Y<|Zl AH Y ?_;refine Xr [_,_] Y call138 Y V (Qv (t:Int) (c:Int)) ?_;rw [D2 (show((0<=(t:Int)/\(t:Int)<4)/\0<=(c:Int)/\(c:Int)<4) by omega)];refine Zv (Br Y)<|Zm Y<|Aj (t:=29) Y V (fun h2=>by cases h2)<|fun h2=>Yl AH Y ?_;refine Yl AH Y ?_;refine Yg (Ef Y Y)<|Zv (AL Y Y)<|AW Y<|Zn [0,1,7,8,9,10,24] ?_;refine Zx<|Av Y (fun h3=>by omega)<|fun h3=>AC<|A8<|Zx<|A1<|Zm Y<|Zm Y<|Zl AH Y ?_;refine Zc [_,_,_] Y call139 Y V (TN _ p rs s hv hs hn ax (t:Int) c hc) ?_;rintro _ _ ⟨_,⟨vr,ve,sr,se,rfl,hO,rfl⟩,rfl⟩;obtain ⟨qr,cr,rfl⟩:=hO.1.form;obtain ⟨qe,ce,rfl⟩:=hO.2.form;have cu:=Cy hO.1 A0
 have l9:Ed se (.slice qe (BP rs (t:Int) c).length ce) (PQ (BP rs (t:Int) c)):=Ho (Ba hO.2 (Ic _).symm rfl) (by rw [Ic];omega);obtain ⟨p9,pg,e9,sj,hg⟩:=id cu;injection e9 with e91 e92 e93
 subst e91 e93;refine Ze (Al ie #[_,_])<|AG fun ob=>Xe (Xw ew #[.slice qr (BP rs (t:Int) c).length cr,.slice qe (BP rs (t:Int) c).length ce]) ?_;refine A6<|A1<|Zv (Bf (vs:=[]) (us:=[_,_]) Y Y)<|A5 Y<|A1<|Zm Y<|Zv (Bf (vs:=[]) (us:=[_]) Y Y)<|Xr [_] Y call140 Y V (we cu A0 c hc lo ob bc bl) ?_
 (refine BZ (FU Y Y (IntWalk.i64_in _ ?_)) ?_;(focus (omega)))
 refine Zv (fP Y Y)<|AW Y<|Zn [0,1,7,8,9,10,12,13,14] ?_;refine Zx<|Zq<|Aw (n:=9) (0::0::3::7::0::16::48::127::255::[]) 4 AF AF V<|A3 0 V (AO Y)<|A3 1 V (Bf (vs:=[]) (us:=[_]) Y Y)<|A3 4 V (AA (off:=0) RC V rfl D3 Y)<|BE 5 V GF Y ?_;refine A3 6 V (Ab C1 Y)<|Zz (l:=[2])<|B7 [true] [(5,(_,_))] V rfl (Zu [_] Y call140 Y V (wb cu A0 c hc hi ob bc bh)) ?_ (fun _ _ h=>h.elim) Ah;rintro _ _ ⟨rfl,rfl⟩;refine Bk<|A3 3 V (Df (n:=1) Y Y A0)<|A3 7 V (QD Y Y)<|A3 8 V (Aq Y)<|Ag<|Zx<|Zb [0,1,7,8,9,10,12,14,15] ?_;refine Ch (e0:=[(0,_),(1,_),(7,_),(8,_),(9,_)]) (H0:=[]) (fun e H=>∃(pb:Nat) (qt:B8) (ct:Nat) (so:List A9),(Bc 1 9 (.slice qt 16 ct) 16 ((YK rs).map GA) so)/\e=[(16,I1 pb)]/\H=[[(pb,.cells #[I0 (t:Int),I0 (c:Int),I0 lo,I0 hi,I0 (((BP rs (t:Int) c).length:Nat):Int),I0 (((CR (BP rs (t:Int) c) c lo):Nat):Int),.slice none 0 0,.slice none 0 0,.slice qt 16 ct] 171 (0,0))],so]) Wp ?hx_2 ?hy_2
 case hx_2=>
  refine Aw (n:=13) (0::0::0::0::0::16::48::0::0::256::1023::0::4095::[]) 6656 AF AF V<|A3 0 V (AO Y)<|BE 1 V AH Y ?_;refine BE 2 V AH Y ?_;refine BE 3 V AH Y ?_;refine A3 4 V (AA (off:=0) RC V rfl D3 Y)<|BE 5 V GF Y ?_;refine A3 6 V (Ab C1 Y)<|A3 7 V (AO Y)<|A3 8 V (AO Y)<|Zz (l:=[9,11])<|B7 [true,true,true,true] [(5,(_,_)),(3,(_,_)),(2,(_,_)),(1,(_,_))] V rfl (Zw [_] Y call145 Y V (VI _ p rs s hv hs hn ax Tg zg)) ?_ Bp ?_;·
   rintro _ _ ⟨_,⟨so,O,rfl⟩,rfl⟩;refine ⟨Zk (Zk (Zk (Zk (AY)))),?_⟩;obtain ⟨qt,ct,rfl⟩:=O.form;refine A3 10 V (BM (vs:=[(0,I0 (t:Int)),(1,I0 (c:Int)),(2,I0 lo),(3,I0 hi),(4,I0 (((BP rs (t:Int) c).length:Nat):Int)),(5,I0 (((CR (BP rs (t:Int) c) c lo):Nat):Int)),(8,.slice qt 16 ct)]) (cs:=#[I0 (t:Int),I0 (c:Int),I0 lo,I0 hi,I0 (((BP rs (t:Int) c).length:Nat):Int),I0 (((CR (BP rs (t:Int) c) c lo):Nat):Int),.slice none 0 0,.slice none 0 0,.slice qt 16 ct]) Y (AZ (pl:=#[(0,1),(1,1),(2,1),(3,1),(4,1),(5,1),(6,1),(7,1),(8,1)]) cU E6 (fun _=>by kernel_rfl) AF))<|Yz 11 0 4095 [5,3,2,1] [true,true,true,true] [(5,(_,_)),(3,(_,_)),(2,(_,_)),(1,(_,_))] V Y V rfl V rfl (Al cU #[_,_,_,_,_,_,_,_,_])<|AG fun pb=>Bk<|Yw 12 8191 V (Xw N2 #[I0 (t:Int),I0 (c:Int),I0 lo,I0 hi,I0 (((BP rs (t:Int) c).length:Nat):Int),I0 (((CR (BP rs (t:Int) c) c lo):Nat):Int),.slice none 0 0,.slice none 0 0,.slice qt 16 ct])<|D0<|Ag<|Zn [16,10,12,14,15] ?_;refine BB (e':=[(16,_)]) (by exact ⟨pb,qt,ct,so,O,V,V⟩)
  refine B7 [true,true,true,true] [(5,(_,_)),(3,(_,_)),(2,(_,_)),(1,(_,_))] V rfl (Al cU #[_,_,_,_,_,_,_,_,_]) ?_ (fun _ _ h=>h.elim) Ah;rintro _ _ ⟨pb,rfl,rfl⟩;refine Bk<|Zz (l:=[9])<|B7 [true,true,true,true] [(5,(_,_)),(3,(_,_)),(2,(_,_)),(1,(_,_))] V rfl (Zw [_] Y call145 Y V (VI _ p rs s hv hs hn ax Tg zg)) ?_ Bp Ah;rintro _ _ ⟨_,⟨so,O,rfl⟩,rfl⟩;refine ⟨Zk (Zk (Zk (Zk (AY)))),?_⟩;obtain ⟨qt,ct,rfl⟩:=O.form;refine A3 10 V (BM (vs:=[(0,I0 (t:Int)),(1,I0 (c:Int)),(2,I0 lo),(3,I0 hi),(4,I0 (((BP rs (t:Int) c).length:Nat):Int)),(5,I0 (((CR (BP rs (t:Int) c) c lo):Nat):Int)),(8,.slice qt 16 ct)]) (cs:=#[I0 (t:Int),I0 (c:Int),I0 lo,I0 hi,I0 (((BP rs (t:Int) c).length:Nat):Int),I0 (((CR (BP rs (t:Int) c) c lo):Nat):Int),.slice none 0 0,.slice none 0 0,.slice qt 16 ct]) Y (AZ (pl:=#[(0,1),(1,1),(2,1),(3,1),(4,1),(5,1),(6,1),(7,1),(8,1)]) cU E6 (fun _=>by kernel_rfl) AF))<|Yw 12 8191 V (Xw N2 #[I0 (t:Int),I0 (c:Int),I0 lo,I0 hi,I0 (((BP rs (t:Int) c).length:Nat):Int),I0 (((CR (BP rs (t:Int) c) c lo):Nat):Int),.slice none 0 0,.slice none 0 0,.slice qt 16 ct])<|D0<|Ag<|Zn [16,10,12,14,15] ?_;refine BB (e':=[(16,_)]) (by exact ⟨pb,qt,ct,so,O,V,V⟩)
 rintro _ _ ⟨pb,qt,ct,so,O,rfl,rfl⟩;refine Zq<|A1<|Zm Y<|A5 Y<|AR<|Be<|Be<|Be<|Zb [17,10,12,15,16] ?_;refine BF (e0:=[(17,_)]) (fun m e H=>∃(k:Nat) (dn:A4) (U:List A9) (vp:A4) (sp:List A9) (J:List A4) (W:List A9),m=(toT (BP rs (t:Int) c) c hi) -(CR (BP rs (t:Int) c) c lo) -k/\(k<=(toT (BP rs (t:Int) c) c hi) -(CR (BP rs (t:Int) c) c lo)/\Bc 5 80 dn k (Ae (((BP rs (t:Int) c).drop (CR (BP rs (t:Int) c) c lo)).take k)) U/\Bc 1 52 vp k J sp/\LP W J (Js (BP rs (t:Int) c) (CR (BP rs (t:Int) c) c lo) k))/\e=[(17,I0 (((CR (BP rs (t:Int) c) c lo)+k:Nat):Int))]/\H=[[(pb,.cells #[I0 (t:Int),I0 (c:Int),I0 lo,I0 hi,I0 (((BP rs (t:Int) c).length:Nat):Int),I0 (((CR (BP rs (t:Int) c) c lo):Nat):Int),dn,vp,.slice qt 16 ct] 171 (0,0))],U,sp,W]) (by exact ⟨0,.slice none 0 0,[],.slice none 0 0,[],[],[],rfl,⟨C7 _,by rw [J0];exact Bi 5 _,Bi 1 _,Vh _⟩,rfl,rfl⟩) Wp ?_;rintro _ _ _ ⟨k,dn,U,vp,sp,J,W,rfl,⟨hk,Z,X,hP⟩,rfl,rfl⟩;obtain ⟨q2,c2,rfl⟩:=Z.form;obtain ⟨q3,c3,rfl⟩:=X.form;refine Zq<|A1<|Zm Y<|Zm Y<|Zv (Ay Y Y)<|A6<|Av Y (fun o8=>?_) (fun o8=>?_);·
  obtain ⟨x,hx⟩:∃x,(BP rs (t:Int) c)[(CR (BP rs (t:Int) c) c lo)+k]?=some x:=⟨_,BT A0⟩;obtain ⟨g,off,cur,T,zz,rfl,o9,pz,j5⟩:=hg _ x hx;have d9:((BP rs (t:Int) c).drop (CR (BP rs (t:Int) c) c lo))[k]?=some x:=by rw [S1];exact hx
  refine AC<|Zx<|Zq<|AR<|A1<|Zh 1 RC V rfl IF Y<|Zl LS Y ?_;refine Zm Y<|Zc [_,_] Y call146 Y rfl (eX l9 (by rw [Ic];omega) (fun s h=>by have:=kM (fun r hr=>ax r (Q5 hr)) s h;omega) ((CR (BP rs (t:Int) c) c lo)+k) (by rw [Ic];omega) Tg zg) ?_;rintro _ _ ⟨_,⟨p8,I,rfl,K,rfl⟩,rfl⟩;have cO:(Fa (PQ (BP rs (t:Int) c)) ((CR (BP rs (t:Int) c) c lo)+k)).length<=maxLen:=xm K
  have l8:=Ho K cO;have bn:=Z6 (BP rs (t:Int) c) (CR (BP rs (t:Int) c) c lo) k▸hP.snoc (l8.mono (fun c h=>Ek W h)) (fun c h=>GB I h)
  obtain ⟨qx,cx,rfl⟩:=K.form;refine Zm Y<|Zd Y V<|Zd Y V<|Za Y<|A5 Y<|Cb (s1:=I) (s2:=W) Wo Wo ?_;refine Aw (n:=18) (0::1::0::4::0::28::60::124::255::0::512::0::2048::8191::2047::32767::65535::131071::[]) 176512 AF AF V<|A3 0 V (AA (off:=6) E6 V rfl D3 Y)<|BE 1 V GF Y ?_;refine A3 2 V (AA (off:=0) RC V rfl D3 Y)<|BE 3 V GF Y ?_;refine A3 4 V (AO Y)<|A3 5 V (Ad C1 B3 Y Y A0)<|CV (b:=g) (x:= .cells cur T zz) (D':=127) 6 V rfl V (by simp [o9]) (AB (cs:=x.A94) Cp B3 Y A0 j5) ?_;refine A3 9 V (AA (off:=7) E6 V rfl SP Y)<|BE 10 V isAgg169 Y ?_;refine A3 11 V (AO Y)<|Zz (l:=[7,12])<|B7 [true,false,false,true] [(10,(_,_)),(1,(_,_))] V rfl (Ai (vs:=[_]) (cs:=[_,_,_,_,_]) C1 B3 EV Y V rfl V rfl V) ?_ (fun _ _ h=>h.elim) ?_;·
   rintro _ _ ⟨af,rfl,rfl⟩;refine Bk<|Zz (l:=[8,12])<|B7 [true,false] [(10,(_,_))] V rfl (BV (by_:=40) (sz:=5) C1 (V:Tryz.prog.info? 80=some Tryz.t80) V rfl V rfl Y (Z) Y (Db 5 af 1 1 80 (0,0) [I0 x.t,I0 x.k,I0 x.v.a,I0 x.v.b,I0 x.v.c] V) Wo Wo G0 A0 A0) ?hk_13 (fun _ _ h=>h.elim) ?hl_13
   case hk_13=>
    rintro _ _ ⟨kv,B,rfl⟩;refine ⟨Zk (AY),?_⟩;obtain ⟨gy,gm,rfl⟩:=B.form;refine A3 14 V (AA (off:=6) E6 V rfl D3 Y)<|Zz (l:=[12])<|B7 [true] [(10,(_,_))] V rfl (Ai (vs:=[_]) (cs:=[_]) TX IF cV Y V rfl V rfl V) ?_ (fun _ _ h=>h.elim) Ah;rintro _ _ ⟨ic,rfl,rfl⟩;refine Bk<|Yw 13 32767 V (Eg (by_:=24) (sz:=1) (news:=[_]) TX (V:Tryz.prog.info? 52=some Tryz.t52) V rfl V rfl Y X Y Wo Wh Ax V iz B0 A0 A0) ?_;rintro _ _ ⟨l5,G,rfl⟩;obtain ⟨j3,gq,rfl⟩:=G.form;refine Yw 15 65535 V (Zs D3 Y Y V (hc:=by exact (V:_=(#[I0 (t:Int),I0 (c:Int),I0 lo,I0 hi,I0 (((BP rs (t:Int) c).length:Nat):Int),I0 (((CR (BP rs (t:Int) c) c lo):Nat):Int),_,_,.slice qt 16 ct]:AM))) (hi:=by(simp;done)))<|D0<|A3 16 V (AA (off:=7) E6 V rfl SP Y)<|Zz (l:=[17])<|B7 [] [] V rfl (Zs SP Y Y V (hc:=by exact (V:_=(#[I0 (t:Int),I0 (c:Int),I0 lo,I0 hi,I0 (((BP rs (t:Int) c).length:Nat):Int),I0 (((CR (BP rs (t:Int) c) c lo):Nat):Int),_,_,.slice qt 16 ct]:AM))) (hi:=by(simp;done))) ?_ (fun _ _ h=>h.elim) Ah;rintro _ _ ⟨rfl,rfl⟩;refine Bk<|Ag<|Zn [10,12,15,16,17] ?_;refine A8<|Zx<|Zg<|Zm Y<|Ya (n:=1) Y Y<|AW Y<|Zn [17,10,12,15,16] ?_;refine Aa (e':=[(17,_)]) (by exact ⟨k+1,_,_,_,_,J++[_],I++W,rfl,⟨by omega,Ba B rfl (by rw [Bl d9,Bo];rfl),Ba G rfl rfl,bn⟩,rfl,rfl⟩)
   refine B7 [true,true] [(10,(_,_)),(1,(_,_))] V rfl (Ai (vs:=[_]) (cs:=[_]) TX IF cV Y V rfl V rfl V) ?_ (fun _ _ h=>h.elim) Ah;rintro _ _ ⟨ic,rfl,rfl⟩;refine Bk<|Yz 8 255 8191 [10,1] [true,false] [(10,(_,_))] V Y V rfl V rfl (BV (by_:=40) (sz:=5) C1 (V:Tryz.prog.info? 80=some Tryz.t80) V rfl V rfl Y (Z) Y (Db 5 af 1 1 80 (0,0) [I0 x.t,I0 x.k,I0 x.v.a,I0 x.v.b,I0 x.v.c] V) Wo Wo G0 A0 A0) ?_;rintro _ _ ⟨kv,B,rfl⟩;refine ⟨Zk (AY),?_⟩;obtain ⟨gy,gm,rfl⟩:=B.form;refine A3 14 V (AA (off:=6) E6 V rfl D3 Y)<|Zz (l:=[13])<|B7 [false] [] V rfl (Eg (by_:=24) (sz:=1) (news:=[_]) TX (V:Tryz.prog.info? 52=some Tryz.t52) V rfl V rfl Y X Y Wo Wh Ax V iz B0 A0 A0) ?hk_21 (fun _ _ h=>h.elim) ?hl_21
   case hk_21=>
    rintro _ _ ⟨l5,G,rfl⟩;refine ⟨AY,?_⟩;obtain ⟨j3,gq,rfl⟩:=G.form;refine Yw 15 65535 V (Zs D3 Y Y V (hc:=by exact (V:_=(#[I0 (t:Int),I0 (c:Int),I0 lo,I0 hi,I0 (((BP rs (t:Int) c).length:Nat):Int),I0 (((CR (BP rs (t:Int) c) c lo):Nat):Int),_,_,.slice qt 16 ct]:AM))) (hi:=by(simp;done)))<|D0<|A3 16 V (AA (off:=7) E6 V rfl SP Y)<|Zz (l:=[17])<|B7 [] [] V rfl (Zs SP Y Y V (hc:=by exact (V:_=(#[I0 (t:Int),I0 (c:Int),I0 lo,I0 hi,I0 (((BP rs (t:Int) c).length:Nat):Int),I0 (((CR (BP rs (t:Int) c) c lo):Nat):Int),_,_,.slice qt 16 ct]:AM))) (hi:=by(simp;done))) ?_ (fun _ _ h=>h.elim) Ah;rintro _ _ ⟨rfl,rfl⟩;refine Bk<|Ag<|Zn [10,12,15,16,17] ?_;refine A8<|Zx<|Zg<|Zm Y<|Ya (n:=1) Y Y<|AW Y<|Zn [17,10,12,15,16] ?_;refine Aa (e':=[(17,_)]) (by exact ⟨k+1,_,_,_,_,J++[_],I++W,rfl,⟨by omega,Ba B rfl (by rw [Bl d9,Bo];rfl),Ba G rfl rfl,bn⟩,rfl,rfl⟩)
   exact Ah
  refine B7 [true,true,true,true] [(10,(_,_)),(6,(_,_)),(3,(_,_)),(1,(_,_))] V rfl (Ai (vs:=[_]) (cs:=[_]) TX IF cV Y V rfl V rfl V) ?_ (fun _ _ h=>h.elim) Ah;rintro _ _ ⟨ic,rfl,rfl⟩;refine ⟨Zk (Ey (by simp [*]) (Zk (Zk (AY)))),?_⟩;refine Yz 7 124 7935 [10,6,3,1] [true,false,false,true] [(10,(_,_)),(1,(_,_))] V Y V rfl V rfl (Ai (vs:=[_]) (cs:=[_,_,_,_,_]) C1 B3 EV Y V rfl V rfl V)<|AG fun af=>Bk<|Yz 8 255 8191 [10,1] [true,false] [(10,(_,_))] V Y V rfl V rfl (BV (by_:=40) (sz:=5) C1 (V:Tryz.prog.info? 80=some Tryz.t80) V rfl V rfl Y (Z) Y (Db 5 af 1 1 80 (0,0) [I0 x.t,I0 x.k,I0 x.v.a,I0 x.v.b,I0 x.v.c] V) Wo Wo G0 A0 A0) ?_;rintro _ _ ⟨kv,B,rfl⟩;refine ⟨Zk (AY),?_⟩;obtain ⟨gy,gm,rfl⟩:=B.form;refine A3 14 V (AA (off:=6) E6 V rfl D3 Y)<|Zz (l:=[13])<|B7 [false] [] V rfl (Eg (by_:=24) (sz:=1) (news:=[_]) TX (V:Tryz.prog.info? 52=some Tryz.t52) V rfl V rfl Y X Y Wo Wh Ax V iz B0 A0 A0) ?hk_28 (fun _ _ h=>h.elim) ?hl_28
  case hk_28=>
   rintro _ _ ⟨l5,G,rfl⟩;refine ⟨AY,?_⟩;obtain ⟨j3,gq,rfl⟩:=G.form;refine Yw 15 65535 V (Zs D3 Y Y V (hc:=by exact (V:_=(#[I0 (t:Int),I0 (c:Int),I0 lo,I0 hi,I0 (((BP rs (t:Int) c).length:Nat):Int),I0 (((CR (BP rs (t:Int) c) c lo):Nat):Int),_,_,.slice qt 16 ct]:AM))) (hi:=by(simp;done)))<|D0<|A3 16 V (AA (off:=7) E6 V rfl SP Y)<|Zz (l:=[17])<|B7 [] [] V rfl (Zs SP Y Y V (hc:=by exact (V:_=(#[I0 (t:Int),I0 (c:Int),I0 lo,I0 hi,I0 (((BP rs (t:Int) c).length:Nat):Int),I0 (((CR (BP rs (t:Int) c) c lo):Nat):Int),_,_,.slice qt 16 ct]:AM))) (hi:=by(simp;done))) ?_ (fun _ _ h=>h.elim) Ah;rintro _ _ ⟨rfl,rfl⟩;refine Bk<|Ag<|Zn [10,12,15,16,17] ?_;refine A8<|Zx<|Zg<|Zm Y<|Ya (n:=1) Y Y<|AW Y<|Zn [17,10,12,15,16] ?_;refine Aa (e':=[(17,_)]) (by exact ⟨k+1,_,_,_,_,J++[_],I++W,rfl,⟨by omega,Ba B rfl (by rw [Bl d9,Bo];rfl),Ba G rfl rfl,bn⟩,rfl,rfl⟩)
  exact Ah
 have ek:k=(toT (BP rs (t:Int) c) c hi) -(CR (BP rs (t:Int) c) c lo):=by omega
 subst ek;refine Az<|Zt<|Zt<|AV<|Zx<|A1<|Zo Wh (AB (cs:=#[I0 (t:Int),I0 (c:Int),I0 lo,I0 hi,I0 (((BP rs (t:Int) c).length:Nat):Int),I0 (((CR (BP rs (t:Int) c) c lo):Nat):Int),.slice q2 _ c2,.slice q3 _ c3,.slice qt 16 ct]) isAgg171 N2 Y B5 Ax) ?_;refine Xe (Xw N2 #[I0 (t:Int),I0 (c:Int),I0 lo,I0 hi,I0 (((BP rs (t:Int) c).length:Nat):Int),I0 (((CR (BP rs (t:Int) c) c lo):Nat):Int),.slice q2 _ c2,.slice q3 _ c3,.slice qt 16 ct]) ?_;refine A5 Y<|AJ<|CP rfl results90 Y Wh (Au isAgg171 N2 Wn (rfl)) Y (by exact ⟨_,_,_,U,sp,J,W,so,rfl,Ba Z (by rw [CD,CH];omega) rfl,X,hP,O,rfl⟩)
end Go.Proofs.YthhakdmlpngcmaaGreatDoor
