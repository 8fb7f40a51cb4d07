/- slices.Backward; digest.Root. -/
import Derived.Test.YtelliknjeemfoaaGreatDoorTr1
set_option linter.unusedVariables false
set_option linter.unusedSimpArgs false
namespace Go.Proofs.YtelliknjeemfoaaGreatDoor
open Go.Proofs.Tryz
open Go Go.RowKit Gw
set_option maxRecDepth 100000
attribute [local irreducible] Gw.At Gw.Nx Gw.Ops
def bwd{α:Type} [Inhabited α](ls:List α):List (Nat×α):=(List.range ls.length).reverse.map (fun i=>(i,ls.getD i default))
variable{α:Type}
theorem XX [Inhabited α](ls:List α):(bwd ls).length=ls.length:=by simp [bwd]
theorem gY [Inhabited α]{ls:List α}{m:Nat}{s:α}(h:ls[m]?=some s):(bwd ls)[ls.length -(m+1)]?=some (m,s):=by
 have g:=(C6.1 h).1;unfold bwd;rw [FF,List.getElem?_reverse LO,dq,cM A0];rw [show ls.length -1 -(ls.length -(m+1))=m by omega];simp [List.getD,h]
theorem Mg [Inhabited α](ls:List α):(bwd ls).map Prod.snd=ls.reverse:=by
 apply O2;intro i;by_cases hi:i<ls.length
 · have g:ls[ls.length -1 -i]?=some (ls[ls.length -1 -i]'A0):=BE _
   have h2:=gY g;rw [show ls.length -(ls.length -1 -i+1)=i by omega]at h2;rw [FF,h2,List.getElem?_reverse hi,g];rfl
 · rw [Nd (by rw [Bm,XX];omega),Nd LO]
theorem A04 [Inhabited α]{ls:List α}{x:Nat×α}(h:x∈bwd ls):x.2∈ls:=by
 have g:x.2∈(bwd ls).map Prod.snd:=CM.2 ⟨x,h,rfl⟩;rw [Mg,gS]at g;exact g
theorem OC{xs:List α}{j:Nat}{x:α}(h:xs[j]?=some x):xs=xs.take j++x::xs.drop (j+1):=by
 have g:=(C6.1 h).1;rw [BE g]at h;injection h with h
 rw [<-h,<-RT g,MA]
theorem uN(xs:List Bs)(q:Bs):(bwd xs).foldl (fun o (x:Nat×Bs)=>JA x.2 o) q=xs.reverse.foldl (fun o r=>JA r o) q:=by
 rw [<-Mg,List.foldl_map]
theorem WS(f:List α->A2)(ps:List (List α))(p q:List α):(((ps++[p])++[q]).map f)[(ps++[p]).length+1 -2]?=some (f p)/\(((ps++[p])++[q]).map f)[(ps++[p]).length+1 -1]?=some (f q):=by
 have e:(ps++[p]).length=ps.length+1:=by simp
 constructor;· rw [show(ps++[p]).length+1 -2=ps.length by omega];simp
 · rw [show(ps++[p]).length+1 -1=ps.length+1 by omega];simp
theorem Xt(f:List α->A2)(ps:List (List α))(p q:List α):(((ps++[p])++[q]).map f).take (((ps++[p]).length+1 -2)*1)=ps.map f:=by
 rw [show((ps++[p]).length+1 -2)*1=(ps.map f).length by simp];simp
theorem xZ(f:List α->A2)(ps:List (List α))(q:List α):((ps++[q]).map f)[(ps++[q]).length -1]?=some (f q):=by
 rw [show(ps++[q]).length -1=ps.length by simp];simp
theorem lq(f:List α->A2)(ps:List (List α))(q:List α):((ps++[q]).map f).take (((ps++[q]).length -1)*1)=ps.map f:=by
 rw [show((ps++[q]).length -1)*1=(ps.map f).length by simp];simp
theorem jC{ps:List α}(h:0<ps.length):∃g p,ps=g++[p]:=by
 rcases ka ps with rfl|⟨a,b,e⟩
 · simp at h
 · exact ⟨a,b,by rw [e,pZ]⟩
theorem uM(xs:List (Nat×Bs))(q:Bs)(g:q.length=32):(xs.foldl (fun o (x:Nat×Bs)=>JA x.2 o) q).length=32:=by
 rcases ka xs with rfl|⟨ys,y,rfl⟩
 · exact g
 · rw [pZ,cQ];exact WX _
theorem Ub(p:B8)(n c:Nat):BQ prog 240 #[.slice p n c] [] (fun r H'=>∃b,r= .func (.func 272) #[] #[I1 b]/\H'=[[(b,.cells #[.slice p n c] 45 (0,0))]]):=by
 refine Se func240 ntmps240 [0] ?_;intro u R;refine A3<|Ze (Bx #[_])<|AF fun b=>AH Y<|A3<|Zv (Bg (vs:=[]) (us:=[_]) Y Y)<|Ax Y<|AX V results240 Y (by exact ⟨_,V,V⟩)
variable{M:List A8}{v:A2}{ls:List Bs}
theorem Uc(hv:EM M v ls)(b:Nat)(hn:ls.length<=1000000000000):
 FC prog 272 #[I1 b] [[(b,.cells #[v] 45 (0,0))]] (fun s=>∀c∈M,c∈s) (fun x=>#[I0 ((x.1:Nat):Int),Fz x.2]) (bwd ls):=by
 have af:=mL;obtain ⟨p,cap,rfl,hl,hg⟩:=hv;intro l J hA hy s B;refine Se func272 ntmps272 [0,1] ?_;intro u R;refine A3<|Zl KK Y ?_;refine Zv (AR Dd Y) ?_
 (refine Ba (Gu Y Y (IntWalk.i64_in _ ?_)) ?_;(focus (omega)))
 refine AH Y<|AP<|Zb [3,0,1] ?_;refine Ay (e0:=[(3,_)]) (fun m e H=>∃(k:Nat) (s:List A8),m=0+k/\(k<=ls.length/\J ((bwd ls).take (ls.length -k)) s)/\e=[(3,I0 ((k:Int) -1))]/\H=[[(b,.cells #[.slice p ls.length cap] 45 (0,0))],s]) (by exact ⟨ls.length,s,rfl,⟨CT _,by rw [W1,MT];exact B⟩,rfl,rfl⟩) Wp ?_;rintro _ _ _ ⟨k,s,rfl,⟨hk,B⟩,rfl,rfl⟩;refine B7 Y<|Zv (IL Y Y)<|A5<|Ap Y (fun X=>?_) (fun X=>?_);·
  obtain ⟨m,rfl⟩:∃m,k=m+1:=⟨k -1,by omega⟩;rw [show(((m+1:Nat):Int) -1)=((m:Nat):Int) by omega];obtain ⟨z9,O⟩:∃z9,ls[m]?=some z9:=⟨_,BE A0⟩;have G:=gY O
  obtain ⟨g,o,cur,T,zz,rfl,hm,I⟩:=hg m z9 O;have K:=I
  have Z:=hy _ _ _ s (OC G) B;refine B4<|Zq<|AP<|AN Y<|Zm Y<|Zl KK Y ?_;refine Zm Y<|Ba (Bu Dd HD Y Y A0)<|CO (cs:=[(g,.cells cur T zz)]) (by simp [hA _ s B _ hm]) (BL Kx Y K) V rfl ?_;refine Ze (GX (vs:=[_,_]) Y Y (Z) Wp) ?_;rintro _ _ ⟨_,⟨s',rfl,rfl,U⟩,rfl⟩;refine Zv (Bh Y)<|A5<|AY Y (fun hb=>by cases hb)<|fun hb=>AC<|A9<|Zx<|Zg<|Zm Y ?_
  (refine Ba (Gu Y Y (IntWalk.i64_in _ ?_)) ?_;(focus (omega)))
  refine B1 Y<|DM (e:=[(3,_)]) (h:=by exact ⟨m,s',rfl,⟨by omega,by rw [show ls.length -m=ls.length -(m+1)+1 by omega,Bq G];exact U⟩,rfl,rfl⟩)
 have W:k=0:=by omega
 subst W;rw [W0,LS (by rw [XX];exact CT _)]at B;refine BB<|Zt<|Zt<|AV<|D6 V results272 (by exact ⟨s,V,B⟩)
theorem Pe(hv:EM M v ls)(hn:ls.length<=1000000)(hs:∀s∈ls,s.length<=140737488354000)(Tg:AK)(zg:Nat×Nat):Az prog 179 #[v] [[(4,.cells (Ec.map Cq).toArray Tg zg)],M] (.string (str (Dp ls))):=by
 have sM:=mL;obtain ⟨p,cap,rfl,hl,hg⟩:=hv;refine Ct func179 V ntmps179 V ?_;intro u R;refine Zb [0] ?_;refine A3<|AH Y<|A3<|AH Y<|A3<|AH Y<|B7 Y<|Zv (AR Dd Y)<|Zm Y<|A5<|AP<|Bc<|Bc<|Zb [3,4,13,11,12] ?_;refine Ay (e0:=[(3,_),(4,_),(13,_)]) (fun m e H=>∃(i:Nat) (ps:List (List Bs)) (vw:A2) (sw:List A8) (vz:A2) (sz:List A8),m=ls.length -i/\(i<=ls.length/\JL ps/\ps.flatten=ls.take i/\BX 1 9 vw ps.length (ps.map rtV) sw/\BX 1 3 vz ps.length (ps.map lnV) sz/\ps.length<=i)/\e=[(3,vw),(4,vz),(13,I0 (i:Int))]/\H=[sw,sz]) (by exact ⟨0,[],.slice none 0 0,[],.slice none 0 0,[],V,⟨C7 _,vE,V,Bi 1 _,Bi 1 _,CT _⟩,V,V⟩) Wp ?_;rintro _ _ _ ⟨i,ps,vw,sw,vz,sz,rfl,⟨hi,hB,hf,J,W,pz⟩,rfl,rfl⟩;refine A3<|Zv (Ar Y Y)<|A5<|Zq<|Ap Y (fun j5=>?_) (fun j5=>?_);·
  obtain ⟨s9,d9⟩:∃s9,ls[i]?=some s9:=⟨_,BE j5⟩;obtain ⟨g,o,cur,T,zz,rfl,pq,j3⟩:=hg i s9 d9;obtain ⟨qw,cw,rfl⟩:=J.form;obtain ⟨qz,cz,rfl⟩:=W.form;have l5:=hs s9 (E7 d9)
  refine B4<|Zq<|AP<|A3<|Ba (Bu Dd HD Y Y A0)<|CO (cs:=[(g,.cells cur T zz)]) (by simp [pq]) (BL Kx Y j3) V rfl ?_;refine AH Y<|AN Y<|Zm Y<|Xr [_] Y call237 Y V (lg s9 l5 Tg zg) ?_;refine Ze (Ah (vs:=[_]) (cs:=[_]) Dd HD Ks Y V rfl V rfl V)<|AF fun b1=>Ze (Ed (by_:=16) (sz:=1) (news:=[_]) Dd (V:Tryz.prog.info? 9=some Tryz.t9) V rfl V rfl Y J Y Wo Wh B2 V HQ An A0 A0) ?_;rintro _ _ ⟨sw,J,rfl⟩;obtain ⟨gw,cw,rfl⟩:=J.form;refine Zm Y<|Ze (Ah (vs:=[_]) (cs:=[_]) DS A6 HX Y V rfl V rfl V)<|AF fun b3=>Ze (Ed (by_:=8) (sz:=1) (news:=[_]) DS (V:Tryz.prog.info? 3=some Tryz.t3) V rfl V rfl Y W Y Wo Wh B2 V HQ An A0 A0) ?_;rintro _ _ ⟨sz,W,rfl⟩;obtain ⟨gz,cz,rfl⟩:=W.form;refine Za Y<|B1 Y<|Zn [3,4,11,12,13] ?_;refine Zx<|AN Y<|Zv (AR DS Y)<|AH Y<|AP<|Zb [3,4,7,11,12,13] ?_;refine Ay (e0:=[(3,_),(4,_),(7,_)]) (fun m e H=>∃(G:List (List Bs)) (q:List Bs) (gy:A2) (gm:List A8) (ic:A2) (gq:List A8),m=0+G.length/\(Nv ls G q (i+1)/\BX 1 9 gy (G.length+1) ((G++[q]).map rtV) gm/\BX 1 3 ic (G.length+1) ((G++[q]).map lnV) gq/\G.length<=i)/\e=[(3,gy),(4,ic),(7,I0 ((G.length+1:Nat):Int))]/\H=[gm,gq]) (by exact ⟨ps,[s9],_,_,_,_,rfl,⟨lS hB hf d9,Bb J rfl (by rw [CN,RC];unfold rtV;rw [qF];rfl),Bb W rfl (by rw [CN];rfl),pz⟩,rfl,rfl⟩) Wp ?_;rintro _ _ _ ⟨G,q,gy,gm,ic,gq,rfl,⟨hM,U,X,sO⟩,rfl,rfl⟩;refine Zq<|Zq<|Aw (n:=15) (0::1::3::7::7::23::63::127::7::7::519::1799::3847::8191::16383::[]) 0 AD AD V<|A1 0 V (AQ Y)<|A1 1 V (Df (n:=1) Y Y)<|A1 2 V (AQ Y)<|Dh (t:=29) Y (fun cO=>?_) (fun cO=>?_);focus
   rw [DO cO];obtain ⟨B,Z,rfl⟩:=jC (ps:=G) A0;have ve:(B++[Z]).length=B.length+1:=by simp
   obtain ⟨cu,ow,O,o8,rfl,rfl,kv,K⟩:=LV (id U) A0;obtain ⟨sD,qy,o9,wz,rfl,rfl,ql,af⟩:=LV (id X) A0;have qj:=af _ _ (WS lnV B Z q).1
   have l9:=af _ _ (WS lnV B Z q).2;have ek:=K _ _ (WS rtV B Z q).1
   have qa:=K _ _ (WS rtV B Z q).2;have q9:q.length<=ls.length:=by have h9:=congrArg List.length hM.flat;rw [C2,Cl]at h9;omega
   refine B5 3 V (AQ Y)<|B5 4 V (AQ Y) ?_
   (refine B5 5 rfl (CQ (n:=2) Y Y ?_ ?_) ?_;(focus (omega));(focus (omega)))
   refine B5 6 V (Bd DS A6 Y Y A0)<|Fk 7 V Wh (BL AE Y qj) ?_;refine B5 8 V (AQ Y)<|B5 9 V (AQ Y) ?_
   (refine B5 10 rfl (CQ (n:=1) Y Y ?_ ?_) ?_;(focus (omega));(focus (omega)))
   refine B5 11 V (Bd DS A6 Y Y A0)<|Fk 12 V Wh (BL AE Y l9) ?_;refine B5 13 V (Bl Y Y)<|A1 14 V (AL Y Y)<|Ao<|Zn [3,4,7,11,12,13,41] ?_;refine Zx<|Ap Y (fun he=>?_) (fun he=>?_);·
    have l8:=hM.step he;refine B4<|Zq<|AP<|Zq<|Aw (n:=18) (0::0::2::7::0::0::32::112::240::0::0::1024::3584::7680::16368::32752::65535::131071::[]) 114688 AD AD V<|A1 0 V (AQ Y)<|A1 1 V (AQ Y) ?_
    (refine FB (D':=7) 2 (CQ (n:=2) Y Y ?_ ?_) ?_;(focus (omega));(focus (omega)))
    refine A1 3 V (Bn Dd HD Y Y A0)<|A1 4 V (AQ Y)<|A1 5 V (AQ Y) ?_
    (refine FB (D':=127) 6 (CQ (n:=2) Y Y ?_ ?_) ?_;(focus (omega));(focus (omega)))
    refine A1 7 rfl (Bd Dd HD Y Y (by first|omega|(simp;omega)))<|Bk 8 rfl Kx Y (hv:=by exact ek) ?_;refine A1 9 V (AQ Y)<|A1 10 V (AQ Y) ?_
    (refine FB (D':=4095) 11 (CQ (n:=1) Y Y ?_ ?_) ?_;(focus (omega));(focus (omega)))
    refine A1 12 rfl (Bd Dd HD Y Y (by first|omega|(simp;omega)))<|Bk 13 rfl Kx Y (hv:=by exact qa) ?_;refine Yw 14 32767 rfl (Zu [_,_] Y call238 Y rfl (VY (Dp Z) (Dp q) (by rw [LZ];omega) (by rw [LZ];omega) Tg zg))<|F1<|Yw 15 65535 V (Ah (vs:=[_]) (cs:=[_]) Dd HD Ks Y V rfl V rfl V)<|AF fun b5=>Yw 16 131071 V (Ed (by_:=16) (sz:=1) (news:=[_]) Dd (V:Tryz.prog.info? 9=some Tryz.t9) V rfl V rfl Y (PZ U ((B++[Z]).length+1 -2) A0) Y Wo Wh B2 V HQ An A0 A0) ?_;rintro _ _ ⟨vo,ax,rfl⟩;obtain ⟨sj,qx,rfl⟩:=ax.form;refine A1 17 V (BI Y)<|Ao<|Zn [3,4,7,11,12,13] ?_;refine Zx<|Aw (n:=13) (0::0::2::7::0::0::32::112::240::496::1008::2047::4095::[]) 3072 AD AD V<|A1 0 V (AQ Y)<|A1 1 V (AQ Y) ?_
    (refine FB (D':=7) 2 (CQ (n:=2) Y Y ?_ ?_) ?_;(focus (first|omega|(simp;omega)));(focus (first|omega|(simp;omega))))
    refine A1 3 V (Bn DS A6 Y Y A0)<|A1 4 V (AQ Y)<|A1 5 V (AQ Y) ?_
    (refine FB (D':=127) 6 (CQ (n:=1) Y Y ?_ ?_) ?_;(focus (first|omega|(simp;omega)));(focus (first|omega|(simp;omega))))
    refine A1 7 rfl (Bd DS A6 Y Y (by first|omega|(simp;omega)))<|Bk 8 rfl AE Y (hv:=by exact l9) ?_;refine A1 9 rfl (Ee (m:=2) Y Y (by first|omega|(simp;omega)))<|Yw 10 2047 rfl (Ah (vs:=[_]) (cs:=[_]) DS A6 HX Y rfl rfl rfl rfl rfl)<|AF fun b7=>Yw 11 4095 V (Ed (by_:=8) (sz:=1) (news:=[_]) DS (V:Tryz.prog.info? 3=some Tryz.t3) V rfl V rfl Y (PZ X ((B++[Z]).length+1 -2) A0) Y Wo Wh B2 V HQ An A0 A0) ?_;rintro _ _ ⟨wo,bn,rfl⟩;obtain ⟨sJ,r9,rfl⟩:=bn.form;refine A1 12 V (BI Y)<|Ao<|Zn [3,4,7,11,12,13] ?_;refine A9<|Zx<|Zg<|Zm Y<|Yb (n:=1) Y Y<|B1 Y<|DM (e:=[(3,_),(4,_),(7,_)]) (h:=by exact ⟨B,Z++q,_,_,_,_,rfl,⟨l8.1,Bb ax A0 (by rw [Xt,CN,RC];unfold rtV;rw [l8.2];rfl),Bb bn A0 (by rw [Xt,CN,RC];unfold lnV;rw [C2,he,<-Nat.two_mul]),by omega⟩,(by rw [show(B++[Z]).length+1 -1=B.length+1 by omega]),rfl⟩)
   focus
    have hD:=hM.done (fun a b e9=>by have e8:=List.singleton_inj.1 (ki e9 rfl).2;rw [<-e8];exact he)
  rotate_left
  focus
   rw [F0 cO];have hD:=hM.done (fun a b e9=>by have e8:=congrArg List.length e9;rw [C2]at e8;simp at e8;omega)
   refine AW 3 V<|AW 4 V<|AW 5 V<|AW 6 V<|AW 7 V<|AW 8 V<|AW 9 V<|AW 10 V<|AW 11 V<|AW 12 V<|AW 13 V<|A1 14 V (AO Y Y)<|Ao<|Zn [3,4,7,11,12,13,41] ?_;refine Zx<|DW Y ?_
  all_goals
   refine BB<|Zt<|Zt<|AV<|A9<|Zx<|E6 Y Y Y<|DM (e:=[(3,_),(4,_),(13,_)]) (h:=by exact ⟨i+1,_,_,_,_,_,rfl,⟨by omega,hD.1,hD.2,Bb U B6 rfl,Bb X B6 rfl,by rw [C2];simp;omega⟩,rfl,rfl⟩)
 have ei:i=ls.length:=by omega
 subst ei;rw [LS (CT _)]at hf;obtain ⟨qw,cw,rfl⟩:=J.form;refine BB<|Zt<|Zt<|AV<|Zx<|B7 Y<|Zv (AR Dd Y)<|Zv (Bl (n:=0) Y Y)<|A5<|Ap Y (fun h0=>?_) (fun h0=>?_);·
  have e0:=OR h0;subst e0;have e1:ls=[]:=hf.symm
  refine A3<|Xr [_] Y call239 Y V (iO [] B6 Tg zg) ?_;refine Ax Y<|Zt<|K8 rfl (dE results179 Y) (by exact ⟨by rw [e1,qG],rfl⟩)
 obtain ⟨B,q,rfl⟩:=jC (ps:=ps) A0;obtain ⟨cu,ow,O,o8,pg,rfl,kv,K⟩:=LV (id J) A0;injection pg with hev1 hev2 hev3
 subst hev1 hev3;have ek:=K _ _ (xZ rtV B q)
 have q9:(B++[q]).length=B.length+1:=by simp
 refine B4<|AN Y<|Zm Y<|Zv (AR Dd Y)<|Yb (n:=1) Y Y ?_;refine Ba (Bd Dd HD Y Y A0)<|Zl Kx Y (hv:=by exact ek) ?_;refine Ze (Al Ks #[_])<|AF fun ob=>Xe (Zs HD Y Y V (hc:=by exact (V:_=(#[Fz (Dp q)]:AM)))) ?_;refine A5<|B7 Y<|Zm Y<|Zv (AR Dd Y)<|Yb (n:=1) Y Y ?_;refine Ba (Bn Dd HD Y Y A0)<|Zc [_] Y call240 Y V (Ub _ _ _) ?_;rintro _ _ ⟨_,⟨bb,rfl,rfl⟩,rfl⟩;refine Z0<|Zn [8,89] ?_;refine Zx<|AP<|Zb [8,89] ?_;refine PG (H0:=_) (R:=_) (I:=(fun pre H=>H=[[(ob,.cells #[Fz (pre.foldl (fun o (x:Nat×Bs)=>JA x.2 o) (Dp q))] 9 (0,0))],[(cu,.cells O 9 o8)],[(4,.cells (Ec.map Cq).toArray Tg zg)]])) (asg:=fun x=>[(10,Fz x.2),(91,Fz x.2),(90,I0 ((x.1:Nat):Int))]) rfl Y call272 (Uc (ls:=B.map Dp) (v:=I2 cu ((B++[q]).length -1) cw) (Hg (Bb (PZ J ((B++[q]).length -1) A0) B6 (by rw [lq,Mz];rfl)) (by rw [Bm];omega)) bb (by rw [Bm];omega)) (fun pre H1 c d h=>by subst h;intro x hx;simp at hx;simp [hx]) Y rfl Wp (rfl) ?ha_13 ?hbd_13 ?hk_13
 case ha_13=>
  intro _ x _ _;refine Zg<|Za Y<|Z0 ?_;exact rY
 case hbd_13=>
  intro l pre x qo u H1 R1 qb hI;subst hI;refine AP<|Zg<|Zm Y<|Zl Kx Y ?_;refine Xr [_,_] Y call238 Y rfl (VY x.2 _ (by obtain ⟨y9,_,e9⟩:=CM.1 (A04 (Vb qb));rw [<-e9,LZ];omega) (by rw [uM _ _ (LZ q)];omega) Tg zg) ?_;refine Xe (Zs HD Y Y V) ?_;refine Z0<|A9<|Fq rfl (by rw [cQ])
 intro D1 H2 p8;subst p8;refine Zn [8] ?_;refine A9<|CD<|Zl Kx Y ?_;refine Ax Y<|Gv rfl (dE results179 Y) Wo (by exact ⟨by rw [uN,uL,hB.root,<-hf];simp,rfl⟩)
theorem Tt:∀(f x:Nat),0<x->x<2^f->Lib.bitLenAux f x=Nat.log2 x+1
 |0,x,h0,h1=>by simp at h1;omega
 |f+1,x,h0,h1=>by
  unfold Lib.bitLenAux;rw [As A0];rw [hQ]at h1;rcases Ft x 2 with h|h
  · have e:x=1:=by omega
    subst e;cases f<;>rfl
  · rw [Tt f (x/2) A0 A0]
    conv=>rhs;rw [Nat.log2_def,B0 h]
    omega
theorem lc(n:Nat)(g:2<=n)(h2:n<=1000000000000):Lib.bitLen (n -1)=Nat.log2 (n -1)+1:=Tt 64 (n -1) A0 A0
def FY(l:List Bs)(i:Nat):List Bs:=
 if h:2<=l.length then
  if i<DU l.length then FY (l.take (DU l.length)) i++[Dp (l.drop (DU l.length))]
  else FY (l.drop (DU l.length)) (i -DU l.length)++[Dp (l.take (DU l.length))]
 else []
termination_by l.length
decreasing_by
 · have:=Oj h;rw [Cl];omega
 · have:=Oi l.length;rw [D0];omega
variable{l:List Bs}
theorem VI(h:l.length<=1)(i:Nat):FY l i=[]:=by rw [FY,dif_neg A0]
variable{i:Nat}
theorem QQ(h:2<=l.length)(hi:i<DU l.length):FY l i=FY (l.take (DU l.length)) i++[Dp (l.drop (DU l.length))]:=by rw [FY,dif_pos h,B0 hi]
theorem OW(h:2<=l.length)(hi:¬i<DU l.length):FY l i=FY (l.drop (DU l.length)) (i -DU l.length)++[Dp (l.take (DU l.length))]:=by rw [FY,dif_pos h,As hi]
theorem EM.take{p:B8}{cap:Nat}(h:EM M (.slice p ls.length cap) ls)(n:Nat)(hn:n<=ls.length):EM M (.slice p n cap) (ls.take n):=by
 obtain ⟨I,m,e,G,B⟩:=h;injection e with e1 e2 e3
 subst e1 e3;have g:(ls.take n).length=n:=by rw [Cl];omega
 refine ⟨p,cap,by rw [g],by rw [g];omega,fun i z hz=>B i z ?_⟩;rw [HU]at hz;split at hz;· exact hz
 · cases hz
theorem EM.drop{B g cap:Nat}(h:EM M (.slice (some ⟨B,g,none⟩) ls.length cap) ls)(n:Nat)(hn:n<ls.length):EM M (.slice (some ⟨B,g+n,none⟩) (ls.length -n) (cap -n)) (ls.drop n):=by
 obtain ⟨p',K,e,Z,W⟩:=h;injection e with e1 e2 e3
 subst e1 e3;refine ⟨_,_,by rw [D0],by rw [D0];omega,fun i z hz=>?_⟩;rw [S2]at hz;obtain ⟨X,O,m,U,J,e2,I,G⟩:=W (n+i) z hz;injection e2 with e2;injection e2 with e3 e4
 subst e3 e4;exact ⟨B,g+n,m,U,J,rfl,I,by rw [l3];exact G⟩
variable{e:AK}
theorem mU{w:A4}{g:Nat}{cur:AM}{z:Nat×Nat}(enc:Bs->A2){zs:List Bs}(I:w.heap[g]?=some (.cells cur e z))(K:zs.length<=cur.size)(B:Gc z cur.size)(O:cur.toList.take zs.length=zs.map enc):Go.Sort.Holds enc w g 0 zs.toArray:=by
 intro j J;have m:j<zs.length:=by simpa using J
 have U:=B j A0;have G:(cur.toList.take zs.length)[j]?=(zs.map enc)[j]?:=by rw [O]
 rw [mx m]at G;refine ⟨?_,?_⟩
 · simp only [World.cell?,I,DP]
   simp only [qS,Of,Hi];rw [<-Hs,G];simp [m]
 · simp only [World.frozen?,I,DP]
   simp;omega
theorem Wy(enc:Bs->A2)(cur:AM)(g:List Bs)(h:g.length<=cur.size):(Go.Sort.putCells enc 0 g.toArray cur).toList.take g.length=g.map enc:=by
 apply O2;intro j;rw [HU];by_cases m:j<g.length
 · rw [B0 m,Hs]
   unfold Go.Sort.putCells;rw [pS,I3 A0];simp [m]
 · rw [As m,Nd LO]
theorem Sat.sorted_enc{u w:A4}{g n:Nat}{cur:AM}{z:Nat×Nat}{R:Hp}(enc:Bs->A2)(d:Array Bs)(h:Sat u ([(g,.cells cur e z)]::R) w):Sat u ([(g,.cells (Go.Sort.putCells enc 0 d cur) e z)]::R) (Go.Sort.putRow enc (Go.Sort.ahead w n) g 0 d):=by
 have m:=h.get (g,.cells cur e z) B6;refine h.upd (.here _) V rfl V ?_ fun k B=>?_;· simp [Go.Sort.putRow,Go.Sort.mapBlock,Go.Sort.ahead,V0,m,Go.Sort.onCells]
 · have:g≠k:=fun e=>B e.symm
   simp [Go.Sort.putRow,Go.Sort.mapBlock,Go.Sort.ahead,V0,this]
variable{s:List A8}
theorem Wq(h:BX 1 9 v ls.length (ls.map Fz) s)(hn:ls.length<=1000000000000):BQ prog 181 #[v] [s] (fun r H'=>r= .tuple #[]/\∃U,BX 1 9 v ls.length (ls.reverse.map Fz) U/\H'=[U]):=by
 obtain ⟨O,⟨rfl,h0,rfl⟩|⟨g,cap,cur,z,rfl,rfl,K,J,m,G,B⟩⟩:=h
 · intro u R w I
   have e:ls=[]:=OR h0;subst e;exact (Tryz.slices_Reverse_string_empty none 0 w).mono (by
    rintro e Z ⟨rfl,rfl⟩;exact .inl ⟨_,_,V,⟨V,[],Bi 1 _,V⟩,I⟩)
 · intro u R w I
   rw [P0]at m G;have X:=I.get (g,.cells cur 9 z) B6
   have W:=mU (w:=w) (g:=g) (e:=9) (z:=z) Fz (zs:=ls) X A0 B G;refine (Tryz.slices_Reverse_string g 0 cap ls w W A0).mono ?_;rintro e Z ⟨rfl,n,rfl⟩;refine .inl ⟨_,_,V,⟨V,_,⟨by simp,.inr ⟨g,cap,_,z,V,V,K,J,?_,?_,?_⟩⟩,V⟩,Sat.sorted_enc (n:=n) Fz ls.reverse.toArray I⟩;· rw [P0];simp [Go.Sort.putCells,m]
   · rw [P0]
     have:=Wy Fz cur ls.reverse (by rw [nd];omega);rw [nd]at this;exact this
   · simpa [Go.Sort.putCells]using B
theorem lZ(n:Nat)(g:2<=n)(h2:n<=1000000000000):Az prog 180 #[I0 (n:Int)] [] (I0 ((DU n:Nat):Int)):=by
 have B:=lc n g h2;have G:=Oj g
 unfold DU at G;have I:(n -1).log2<64:=(Nat.log2_lt A0).2 A0
 refine Se func180 ntmps180 [0] ?_;intro u R;refine A3<|AH Y<|AN Y<|Ba (CQ (n:=1) Y Y (by first|omega|(rw [Ss];omega)) (by first|omega|(rw [Ss];omega)))<|Ba (Lf D3 ZS Y (by first|omega|(rw [Ss];omega)))<|Xr [_] Y call106 Y rfl (Rc (H:=[]) (Rl:=fun v=>v=I0 ((Lib.bitLen (n -1):Nat):Int)) (fun w _=>(Tryz.bits_Len ((n -1:Nat):Int) w A0 A0).mono (by rintro e J ⟨rfl,rfl⟩;exact ⟨_,rfl,by rw [Z2],Below.refl _ _⟩)) (fun v h=>⟨h,rfl⟩)) ?_;rw [B];refine Ba (CQ (n:=1) Y Y (by first|omega|(rw [Ss];omega)) (by first|omega|(rw [Ss];omega)))<|Ba (UK (m:=1) Y Y A0 (by first|omega|(rw [Ss];omega)))<|Ax Y<|AX rfl results180 Y (by exact ⟨by rw [Ss,Nat.one_mul];rfl,rfl⟩)
theorem dK(hv:EM M v ls)(hn:ls.length<=1000000)(hs:∀s∈ls,s.length<=140737488354000)(i:Nat)(hi:i<ls.length)(Z:AK)(zg:Nat×Nat):
 BQ prog 132 #[v,I0 (i:Int)] [[(4,.cells (Ec.map Cq).toArray Z zg)],M] (fun r H'=>∃vp sp,r= .tuple #[vp,I0 0]/\BX 1 9 vp (FY ls i).length ((FY ls i).map Fz) sp/\H'=[sp,[(4,.cells (Ec.map Cq).toArray Z zg)],M]):=by
 have j3:=mL;obtain ⟨p,cap,rfl,hl,hg⟩:=id hv;refine Se func132 ntmps132 [0,1] ?_;intro u R;refine A3<|Za Y<|AH Y<|Tv ?_;refine B7 Y<|Zv (Ar (n:=0) Y Y)<|Zm Y<|Ae (t:=12) Y V (fun h1=>by omega)<|fun h1=>Zf Y Y<|Zf Y Y<|Yg (AR Dd Y)<|Yg (G8 Y Y)<|BW Y Y<|A5<|Ap Y (fun h2=>by omega)<|fun h2=>AC<|CD<|D2 Y<|Tx<|Zx<|Zq<|AP<|Bc<|Zb [0,1,6] ?_;refine Ay (e0:=[(0,_),(1,_),(6,_)]) (fun m e H=>∃(l2:List Bs) (i2:Nat) (p2:B8) (cap2:Nat) (o:List Bs) (vo:A2) (so:List A8),m=0+l2.length/\(EM M (.slice p2 l2.length cap2) l2/\i2<l2.length/\(∀s∈l2,s.length<=140737488354000)/\FY ls i=FY l2 i2++o.reverse/\BX 1 9 vo o.length (o.map Fz) so/\o.length+l2.length<=ls.length)/\e=[(0,.slice p2 l2.length cap2),(1,I0 (i2:Int)),(6,vo)]/\H=[so]) (by exact ⟨ls,i,p,cap,[],.slice none 0 0,[],V,⟨hv,hi,hs,by simp,Bi 1 _,by simp⟩,V,V⟩) Wp ?_;rintro _ _ _ ⟨l2,i2,p2,cap2,o,vo,so,rfl,⟨O,gm,J,B,I,j5⟩,rfl,rfl⟩;obtain ⟨qo,co,rfl⟩:=I.form;refine AP<|B7 Y<|Zv (AR Dd Y)<|Zv (Bl (n:=1) Y Y)<|A5<|Ap Y (fun h1=>?_) (fun h1=>?_);·
  rw [VI (l:=l2) A0,Mu]at B;refine BB<|Zt<|BR V<|Zt<|AV<|Zx<|AN Y<|Zc [_] Y call181 Y V (Wq I A0) ?_;rintro _ _ ⟨_,⟨rfl,bn,U,rfl⟩,rfl⟩;refine A5<|AN Y<|Za Y<|Ax Y<|KZ ?_;refine Di rfl results132 Y Y (by exact ⟨_,bn,rfl,Bb U (by rw [B,nd]) (by rw [B]),rfl⟩)
 have h9:2<=l2.length:=by omega
 have ax:=Oj h9;have gq:=Oi l2.length
 have g:(l2.take (DU l2.length)).length=DU l2.length:=by rw [Cl];omega
 obtain ⟨p8,cu,e8,gy,af⟩:=id O;injection e8 with e81 e82 e83
 subst e81 e83;obtain ⟨g8,d9,cO,T8,kv,rfl,ic,ek⟩:=af 0 _ (BE A0);have X:=O.take (DU l2.length) A0
 have W:=O.drop (DU l2.length) ax;refine B4<|AN Y<|Zv (AR Dd Y)<|Xr [_] Y call180 Y V (lZ l2.length h9 A0) ?_;refine D2 Y<|Aw (n:=8) (0::0::3::0::0::24::7::127::[]) 0 AD AD V<|A1 0 V (AQ Y)<|A1 1 V (AQ Y)<|A1 2 V (Bn Dd HD Y Y A0)<|A1 3 V (AQ Y)<|A1 4 V (AQ Y) ?_
 (refine FB (D':=63) 5 (Ml Dd HD Y Y ?_ ?_) ?_;(focus (omega));(focus (omega)))
 refine A1 6 V (BI Y)<|A1 7 V (BI Y)<|Ao<|Zn [1,6,7,8,9] ?_;refine Zx<|B7 Y<|Zm Y<|Zv (G8 Y Y)<|A5<|Ap Y (fun K=>?_) (fun K=>?_);·
  have K:¬i2<DU l2.length:=by omega
  refine Zg<|Zm Y<|Zm Y<|Zm Y<|Zm Y<|Yb Y Y<|Za Y<|Za Y<|AH Y<|AN Y<|Zm Y<|Xr [_] Y call179 Y rfl (Pe X (by rw [g];omega) (fun s h=>J s (R0 h)) Z zg) ?_;refine Ze (Ah (vs:=[_]) (cs:=[_]) Dd HD Ks Y V rfl V rfl V)<|AF fun b1=>Ze (Ed (by_:=16) (sz:=1) (news:=[_]) Dd (V:Tryz.prog.info? 9=some Tryz.t9) V rfl V rfl Y I Y Wo Wh B2 V HQ An A0 A0) ?_;rintro _ _ ⟨sw,G,rfl⟩;obtain ⟨gw,cw,rfl⟩:=G.form;refine B1 Y<|Zn [1,6,8] ?_;refine Zx<|Zg<|Zm Y<|B1 Y<|A9<|DM (e:=[(0,_),(1,_),(6,_)]) (h:=by exact ⟨l2.drop (DU l2.length),i2 -DU l2.length,_,_,o++[Dp (l2.take (DU l2.length))],_,_,(by rw [D0]),⟨(by rw [D0];exact W),by rw [D0];omega,fun s h=>J s (MD h),by rw [B,OW h9 K,q7,DG];rfl,Bb G B6 (by simp;rfl),by rw [C2,D0];simp;omega⟩,(by rw [D0]),rfl⟩)
 refine B4<|AN Y<|Zm Y<|Xr [_] Y call179 Y rfl (Pe W (by rw [D0];omega) (fun s h=>J s (MD h)) Z zg) ?_;refine Ze (Ah (vs:=[_]) (cs:=[_]) Dd HD Ks Y V rfl V rfl V)<|AF fun b3=>Ze (Ed (by_:=16) (sz:=1) (news:=[_]) Dd (V:Tryz.prog.info? 9=some Tryz.t9) V rfl V rfl Y I Y Wo Wh B2 V HQ An A0 A0) ?_;rintro _ _ ⟨sw,G,rfl⟩;obtain ⟨gw,cw,rfl⟩:=G.form;refine AH Y<|Zg<|Zm Y<|B1 Y<|A9<|DM (e:=[(0,_),(1,_),(6,_)]) (h:=by exact ⟨l2.take (DU l2.length),i2,_,_,o++[Dp (l2.drop (DU l2.length))],_,_,(by rw [g]),⟨(by rw [g];exact X),by rw [g];omega,fun s h=>J s (R0 h),by rw [B,QQ h9 A0,q7,DG];rfl,Bb G B6 (by simp;rfl),by rw [C2,g];simp;omega⟩,(by rw [g]),rfl⟩)
def yv(s:Bs):Bool:=!decide (s.length=32)
def zY(s:Bs):Nat->Nat->List Bs->Option Bs
 |n,_,[]=>if n<=1 then some (Yx s)else none
 |n,i,x::rp=>if n<=1 then none else if i<DU n then(zY s (DU n) i rp).map (fun v=>JA v x)else(zY s (n -DU n) (i -DU n) rp).map (fun v=>JA x v)
def ye(root:Bs)(n i:Nat)(s:Bs)(pf:List Bs):Bool:=!(pf.any yv)&&decide (zY s n i pf.reverse=some root)
def Q6(r:AU):Bs:=Ht [r.t,r.k]++Ht [r.v.a,r.v.b,r.v.c]
variable{r:AU}
theorem Wi(h:r.ok):(∀n∈[r.t,r.k],-4611686018427387903<=n/\n<=4611686018427387903)/\(∀n∈[r.v.a,r.v.b,r.v.c],-4611686018427387903<=n/\n<=4611686018427387903):=by
 obtain ⟨⟨g,h2,m⟩,B,G⟩:=h;unfold inV at g h2 m;constructor
 · intro n hn
   simp only [Dg,T0,Sf]at hn;rcases hn with rfl|rfl<;>omega
 · intro n hn
   simp only [Dg,T0,Sf]at hn;rcases hn with rfl|rfl|rfl<;>omega
theorem gF(h:r.ok):(Q6 r).length<=45:=by
 have g:=Hr _ (Wi h).1;have h2:=Hr _ (Wi h).2
 unfold Q6;rw [C2];simp only [EV,Mp]at g h2;omega
theorem tq(a b:Int):Kt #[I0 a,I0 b] 0 [a,b]:=by
 intro i n h;rcases i with _|_|i
 · simp at h;subst h;rfl
 · simp at h;subst h;rfl
 · simp at h
theorem y7(r:AU):Kt r.A88 2 [r.v.a,r.v.b,r.v.c]:=by
 intro i n h;rcases i with _|_|_|i
 · simp at h;subst h;rfl
 · simp at h;subst h;rfl
 · simp at h;subst h;rfl
 · simp at h
theorem jw(r:AU)(B:r.ok):Az prog 176 #[.agg r.A88] [] (.tuple #[.string (str (Q6 r)),I0 0]):=by
 have hn:=Wi B;have g:=Hr _ hn.1
 have m:=Hr _ hn.2;simp only [EV,Mp]at g m;refine Se func176 ntmps176 [0] ?_;intro u R;refine A3<|Ze (Bx #[_,_,_,_,_])<|AF fun G=>Za Y<|D2 Y<|A3<|Zo Wh (Pa #[_,_,_,_,_] DE B3 Y)<|Xr [_] Y call199 Y V (Rn r) ?_;rw [DO B];refine Zv (Bh Y)<|A5<|AY Y (fun hv=>by cases hv)<|fun hv=>B4<|Zq<|Aw (n:=12) (0::1::0::4::15::31::0::64::255::511::1023::2047::[]) 304 AD AD V<|A1 0 V (AB (off:=0) H3 V rfl A6 Y)<|Bk 1 V AE Y<|A1 2 V (AB (off:=1) H3 V rfl A6 Y)<|Bk 3 V AE Y<|A1 6 V (AB (off:=2) H3 V rfl E0 Y)<|A1 7 V (IY K0 A6 Y)<|Zz (l:=[4])<|C0 [false,false] [] V rfl (Ah (vs:=[_,_]) (cs:=[_,_]) DS A6 HX Y V rfl V rfl V) ?_ (fun _ _ h=>h.elim) Am;rintro _ _ ⟨gb,rfl,rfl⟩;refine CA<|Yw 5 255 V (Zu [_] Y call234 Y V (pR gb 0 2 _ _ _ [r.t,r.k] (tq r.t r.k) B6 hn.1))<|F1<|Yw 8 511 V (Zu [_] Y call234 Y V (pR G 2 3 _ _ _ [r.v.a,r.v.b,r.v.c] (y7 r) B6 hn.2))<|F1<|A1 9 rfl (MV Y Y (by rw [Gq,Gq];omega))<|A1 10 rfl (BI Y)<|A1 11 rfl (BI Y)<|Ao<|Zn [2,3] ?_;refine Zx<|AJ<|Di rfl results176 Y Y (by exact ⟨by rw [R5];rfl,rfl⟩)
def BO(rs:List AU)(t:Int)(c:Nat):List AU:=Dv rs t c (-1000000000) 1000000000
theorem J9{rs:List AU}(g:BN rs)(t:Int)(c:Nat):(BO rs t c).length<=rs.length:=by
 unfold BO;rw [(ET rs t c _ _).length_eq];exact RW _ _
theorem Pg{rs:List AU}{t:Int}{c:Nat}{lo hi:Int}(h:r∈Dv rs t c lo hi):r∈rs:=(GP.1 ((ET rs t c lo hi).mem_iff.1 h)).1
def Ox(l:List AU):List Bs:=l.map Q6
theorem IR(l:List AU):(Ox l).length=l.length:=Bm ..
theorem ug{l:List AU}{x:AU}(h:l[i]?=some x):(Ox (l.take (i+1))).map Fz=(Ox (l.take i)).map Fz++[.string (str (Q6 x))]:=by
 rw [Bq h];unfold Ox;rw [CN,CN];rfl
def vT(l:List AU)(vr ve:A2)(sr se:List A8):Prop:=BX 5 61 vr (l).length (Ad (l)) sr/\BX 1 9 ve l.length ((Ox l).map Fz) se
theorem Sl(v:A2)(p:Int)(rs:List AU)(s:List A8)(hv:Qz v p rs s)(hs:BN rs)(hn:rs.length<=2000)(af:∀r∈rs,r.ok)(t:Int)(c:Nat)(hc:c<=3):
 BQ prog 124 #[v,I0 t,I0 (c:Int)] [s] (fun r H'=>∃vr K W J,r= .agg #[vr,K]/\vT (BO rs t c) vr K W J/\H'=[W,J,s]):=by
 have gm:=mL;have ek:=J9 hs t c
 refine Se func124 ntmps124 [0,1,2] ?_;intro u R;refine A3<|Ze (Al j7 #[_,_])<|AF fun qb=>A5<|AN Y<|Zm Y<|Zm Y<|Zc [_,_,_,_,_] Y call82 Y V (Y1 v p rs s hv t c (-1000000000) 1000000000 hc) ?_;rintro _ _ ⟨_,⟨W,G,rfl⟩,rfl⟩;change BX 5 61 _ (BO rs t c).length (Ad (BO rs t c)) W at G;obtain ⟨qr,cr,rfl⟩:=G.form;have X:=Db G A0
 obtain ⟨p9,bn,e9,gq,hg⟩:=id X;injection e9 with e91 e92 e93
 subst e91 e93;refine Zv (BM (vs:=[(0,_)]) (cs:=#[_,_]) Y (Aa (pl:=#[(0,1),(1,1)]) j7 SD (fun _=>by kernel_rfl) V))<|Ze (Al j7 #[_,_])<|AF fun ob=>Xe (BF fg Y Y (by(simp [Value.oneCell',Value.cells];done)) Wu (by exact (rfl:_=(#[.slice qr (BO rs t c).length cr,.slice none 0 0]:AM))) Fm An (by exact BA _))<|A5<|Zq<|A3<|Zh 0 SD rfl rfl DH Y<|Zl GS Y<|Zv (AR C1 Y)<|Zm Y<|A5<|AP<|Bc<|Zb [20,6,7,18,19] ?_;refine Ay (e0:=[(20,_)]) (fun m e H=>∃(i:Nat) (K:A2) (J:List A8),m=(BO rs t c).length -i/\(i<=(BO rs t c).length/\BX 1 9 K i ((Ox ((BO rs t c).take i)).map Fz) J)/\e=[(20,I0 (i:Int))]/\H=[[(ob,.cells #[.slice qr (BO rs t c).length cr,K] 225 (0,0))],J]) (by exact ⟨0,.slice none 0 0,[],V,⟨C7 _,Bi 1 _⟩,V,V⟩) Wp ?_;rintro _ _ _ ⟨i,K,J,rfl,⟨hi,B⟩,rfl,rfl⟩;obtain ⟨qe,ce,rfl⟩:=B.form;refine A3<|Zv (Ar Y Y)<|A5<|Zq<|Ap Y (fun U=>?_) (fun U=>?_);·
  obtain ⟨x,hx⟩:∃x,(BO rs t c)[i]?=some x:=⟨_,BE U⟩;obtain ⟨g,off,cur,T,zz,rfl,Z,cu,O⟩:=hg i x hx;have ax:=af x (Pg (E7 hx))
  refine B4<|Zq<|AP<|A3<|Ba (AZ C1 B3 Y Y A0)<|CO (cs:=[(g,.cells cur T zz)]) (by simp [Z]) (AA (cs:=x.A88) DE B3 Y A0 O) V rfl<|Ze (Al G1 #[_,_,_,_,_])<|AF fun xb=>Xe (Xw B3 x.A88)<|A5<|A3<|Zo Wh (Pa #[_,_,_,_,_] DE B3 Y)<|Xr [_] Y call176 Y V (jw x ax)<|Zm Y<|Zd Y V<|Zd Y V<|Za Y<|AH Y<|Zg<|Zh 1 SD V rfl Hc Y<|Zl KK Y<|Zm Y<|Ze (Ah (vs:=[_]) (cs:=[_]) Dd HD Ks Y V rfl V rfl V)<|AF fun b4=>Ze (Ed (by_:=16) (sz:=1) (news:=[_]) Dd (V:Tryz.prog.info? 9=some Tryz.t9) V rfl V rfl Y B Y Wo Wh B2 V HQ An A0 A0) ?_;rintro _ _ ⟨gy,I,rfl⟩;obtain ⟨d9,cO,rfl⟩:=I.form;refine Zh 1 SD V rfl Hc Y<|Xe (Zs Hc Y Y V (hc:=by exact (V:_=(#[.slice _ (BO rs t c).length cr,_]:AM))) (hi:=by(simp;done)))<|Z0<|Zn [6,7,18,19,20] ?_;refine A9<|Zx<|E6 Y Y Y<|DM (e:=[(20,_)]) (h:=by exact ⟨i+1,_,_,rfl,⟨by omega,Bb I rfl (by rw [ug hx])⟩,rfl,rfl⟩)
 have ei:i=(BO rs t c).length:=by omega
 subst ei;rw [HI]at B;refine BB<|Zt<|Zt<|AV<|CD<|Zo Wh (AA (cs:=#[_,_]) isAgg225 fg Y B9 B2)<|Xe (BF fg Y Y (by(simp [Value.oneCell',Value.cells];done)) Wu (by exact (rfl:_=(#[.slice qr (BO rs t c).length cr,.slice qe _ ce]:AM))) Fm An (by exact BA _))<|A5<|AJ<|Cv rfl results124 Y Wh (Av isAgg225 fg Wn (rfl)) (by exact ⟨.slice qr _ cr,.slice qe _ ce,W,J,rfl,⟨G,B⟩,rfl⟩)
theorem Ym(v:A2)(p:Int)(rs:List AU)(s:List A8)(hv:Qz v p rs s)(J:BN rs)(hn:rs.length<=2000)(I:∀r∈rs,r.ok)(t:Int)(c:Nat)(hc:c<=3):
 BQ prog 124 #[v,I0 t,I0 (c:Int)] [s] (fun r H'=>∃G B m g,r= .agg #[G,B]/\vT (BO rs t c) G B m g/\H'=[m++g,s]):=by
 refine Gz (Sl v p rs s hv J hn I t c hc) V ?_;rintro r H' ⟨G,B,m,g,rfl,h,rfl⟩;exact ⟨_,⟨G,B,m,g,V,h,V⟩,by simp⟩
def tcs:List (Nat×Nat):=(List.range 4).flatMap fun t=>(List.range 4).map fun c=>(t,c)
theorem wt:∀t,t<4->∀c,c<4->tcs[4*t+c]?=some (t,c):=by decide
def zh(rs:List AU)(x:Nat×Nat):Bs:=Tf ((BO rs (x.1:Int) x.2).length:Int)++Dp (Ox (BO rs (x.1:Int) x.2))
def Xx(rs:List AU):List Bs:=tcs.map (zh rs)
def zy(rs:List AU)(x:Nat×Nat)(vs:AM)(sx:List A8):Prop:=∃vr ve sr se,vs=#[.agg #[vr,ve]]/\vT (BO rs (x.1:Int) x.2) vr ve sr se/\sx=sr++se
theorem jP{l:List AU}(h:∀r∈l,r.ok):∀s∈Ox l,s.length<=45:=by
 intro s m;obtain ⟨r,g,rfl⟩:=CM.1 m;exact gF (h r g)
theorem Yh(q:B8):BQ prog 177 #[.pointer q] [] (fun r H'=>∃b,r= .func (.func 235) #[] #[I1 b]/\H'=[[(b,.cells #[.pointer q] 117 (0,0))]]):=by
 refine Se func177 ntmps177 [0] ?_;intro u R;refine A3<|Ze (Bx #[_])<|AF fun b=>AH Y<|A3<|Zv (Bg (vs:=[]) (us:=[_]) Y Y)<|Ax Y<|AX V results177 Y (by exact ⟨_,V,V⟩)
theorem Yj(v:A2)(p:Int)(rs:List AU)(s:List A8)(hv:Qz v p rs s)(hs:BN rs)(hn:rs.length<=2000)(W:∀r∈rs,r.ok)(b:Nat):
 WE prog 235 #[I1 b] [[(b,.cells #[v] 117 (0,0))]] [s] (zy rs) tcs:=by
 have af:=mL;intro l J hy s0 hJ;refine Se func235 ntmps235 [0,1] ?_;intro u R;refine AN Y<|A5<|AP<|Zb [5,0,1] ?_;refine Ay (e0:=[(5,_)]) (fun m e H=>∃(t:Nat) (s2:List A8),m=4 -t/\(t<=4/\J (tcs.take (4*t)) s2)/\e=[(5,I0 (t:Int))]/\H=[s2]) (by exact ⟨0,s0,V,⟨by omega,hJ⟩,V,V⟩) Wp ?_;rintro _ _ _ ⟨t,s2,rfl,⟨ht,g⟩,rfl,rfl⟩;refine A3<|Zv (Ar (n:=4) Y Y)<|A5<|Zq<|Ap Y (fun I=>?_) (fun I=>?_);·
  refine B4<|Zq<|AP<|AN Y<|AH Y<|AN Y<|A5<|AP<|Zb [8,0,1,3,5] ?_;refine Ay (e0:=[(8,_)]) (fun m e H=>∃(c:Nat) (K:List A8),m=4 -c/\(c<=4/\J (tcs.take (4*t+c)) K)/\e=[(8,I0 (c:Int))]/\H=[K]) (by exact ⟨0,s2,V,⟨by omega,g⟩,V,V⟩) Wp ?_;rintro _ _ _ ⟨c,K,rfl,⟨hc,B⟩,rfl,rfl⟩;refine A3<|Zv (Ar (n:=4) Y Y)<|A5<|Zq<|Ap Y (fun G=>?_) (fun G=>?_);·
   have hx:=wt t I c G;refine B4<|Zq<|AP<|AN Y<|AH Y<|AN Y<|Zl isAgg117 Y<|Zm Y<|Zm Y<|Zc [_,_,_] Y call124 Y V (Ym v p rs s hv hs hn W (t:Int) c A0) ?_;rintro _ _ ⟨_,⟨vr,ve,sr,se,rfl,hO,rfl⟩,rfl⟩;have X:=hy _ _ _ K #[.agg #[vr,ve]] (sr++se) (OC hx) B ⟨vr,ve,sr,se,rfl,hO,rfl⟩
   refine Ze (GX (vs:=[_]) Y Y (X) Wp) ?_;rintro _ _ ⟨_,⟨s4,rfl,rfl,U⟩,rfl⟩;refine Zv (Bh Y)<|A5<|AY Y (fun Z=>by cases Z)<|fun Z=>AC<|A9<|Zx<|E6 Y Y Y<|DM (e:=[(8,_)]) (h:=by exact ⟨c+1,s4,rfl,⟨by omega,by rw [<-l3,Bq hx];exact U⟩,rfl,rfl⟩)
  refine BB<|Zt<|Zt<|AV<|A9<|Zx<|E6 Y Y Y<|DM (e:=[(5,_)]) (h:=by exact ⟨t+1,K,rfl,⟨by omega,by rw [Nat.mul_add,P0];have O:c=4:=A0;subst O;exact B⟩,rfl,rfl⟩)
 have O:t=4:=by omega
 subst O;refine BB<|Zt<|Zt<|AV<|D6 V results235 (by exact ⟨s2,V,g⟩)
theorem Un(v:A2)(p:Int)(rs:List AU)(s:List A8)(hv:Qz v p rs s)(hs:BN rs)(hn:rs.length<=2000)(O:∀r∈rs,r.ok)(W:AK)(zg:Nat×Nat):
 BQ prog 131 #[v] [[(4,.cells (Ec.map Cq).toArray W zg)],s] (fun r H'=>∃so,BX 1 9 r 16 ((Xx rs).map Fz) so/\H'=[so,[(4,.cells (Ec.map Cq).toArray W zg)],s]):=by
 have j5:=mL;obtain ⟨l9,l8,ic,gq,l5,rfl,d9⟩:=id hv;refine Ct func131 V ntmps131 V ?_;intro u R;refine Zb [0] ?_;refine A3<|AH Y<|A3<|Ze (Al dv #[_])<|AF fun ob=>A5<|B7 Y<|Zc [_] Y call177 Y V (Yh _) ?_;rintro _ _ ⟨_,⟨bb,rfl,rfl⟩,rfl⟩;refine A5<|AP<|Zb [3,8] ?_;refine Bc<|Xd (H0:=_) (R:=_) (I:=(fun pre H=>∃Z s2,H=[[(ob,.cells #[Z] 45 (0,0))],s2,[(4,.cells (Ec.map Cq).toArray W zg)]]/\BX 1 9 Z pre.length ((pre.map (zh rs)).map Fz) s2)) (E:=fun x vs sx e Hn=>∃X J G,vs=#[.agg #[J,G]]/\e=[(4,I1 X),(9,.agg #[J,G])]/\Hn=[[(X,.cells #[J,G] 225 (0,0))]]) rfl Y call235 (Yj _ p rs s hv hs hn O bb) (fun x vs sx h=>by obtain ⟨J,G,sr,se,rfl,_⟩:=h;rfl) rfl Wp (⟨_,[],rfl,Bi 1 _⟩) ?ha_2 ?hbd_2 ?hk_2
 case ha_2=>
  intro _ x vs sx _ _ g;obtain ⟨J,G,sr,se,rfl,K,rfl⟩:=g;refine Zg<|Ze (Al j7 #[_,_])<|AF fun X=>Xe (BF fg Y Y (by obtain ⟨q1,c1,rfl⟩:=K.1.form;obtain ⟨q2,c2,rfl⟩:=K.2.form;simp [Value.oneCell',Value.cells]) Wu (by exact (rfl:_=(#[J,G]:AM))) Fm An (by exact BA _)) ?_;refine Z0<|Lh (e:=[(4,_),(9,_)]) (Hn:=[[(_,_)]]) ?_;exact ⟨_,_,_,V,V,V⟩
 case hbd_2=>
  intro l pre x ek u vs sx e9 gm H1 R1 cO hI g af;obtain ⟨J,G,sr,se,rfl,K,rfl⟩:=g;obtain ⟨X,ow,o9,U,rfl,rfl⟩:=af;simp at U;obtain ⟨rfl,rfl⟩:=U;obtain ⟨Z,s2,rfl,m⟩:=hI;obtain ⟨qe,ce,rfl⟩:=K.2.form;obtain ⟨q2,c2,rfl⟩:=m.form;have cu:=congrArg List.length cO
  rw [C2,EV,show tcs.length=16 from rfl]at cu;have kv:=J9 hs (x.1:Int) x.2
  have bn:EM (sr++se) (.slice qe (BO rs (x.1:Int) x.2).length ce) (Ox (BO rs (x.1:Int) x.2)):=(Hg (Bb K.2 (IR _).symm rfl) (by rw [IR];omega)).mono (fun c h=>HC _ h);refine AP<|A3<|Zh 1 SD V rfl Hc Y<|Zl KK Y ?_;refine Zv (AR Dd Y)<|Xr [_] Y call178 Y V (QP _ A0 A0) ?_;refine Zm Y<|Zd Y V<|Zd Y V<|Za Y<|AH Y<|Aw (n:=9) (0::0::0::4::12::30::62::127::255::[]) 464 AD AD V<|Bk 0 V KK Y ?_;refine A1 1 V (AQ Y)<|A1 2 V (AB (off:=1) SD V rfl Hc Y)<|Bk 3 V KK Y ?_;refine Yz 4 12 31 [3,0] [false,true] [(0,(_,_))] rfl Y rfl rfl rfl rfl (Zu [_] Y call179 Y rfl (Pe bn (by rw [IR];omega) (fun s h=>by have:=jP (fun r hr=>O r (Pg hr)) s h;omega) W zg))<|F1<|CA<|A1 5 rfl (MV Y Y (by rw [Gq,Gq,LZ];have:=Oy ((BO rs (x.1:Int) x.2).length:Int) A0 A0;omega))<|Yz 6 62 127 [0] [true] [(0,(_,_))] rfl Y rfl rfl rfl rfl (Ah (vs:=[_]) (cs:=[_]) Dd HD Ks Y rfl rfl rfl rfl rfl)<|AF fun b3=>CA<|Yw 7 255 V (Ed (by_:=16) (sz:=1) (news:=[_]) Dd (V:Tryz.prog.info? 9=some Tryz.t9) V rfl V rfl Y m Y Wo Wh B2 V HQ An A0 A0) ?_;rintro _ _ ⟨o8,B,rfl⟩;obtain ⟨j3,gy,rfl⟩:=B.form;refine Yw 8 511 V (Zs Hc Y Y V (hi:=by(simp;done)))<|F1<|Ao<|Zn [] ?_;refine A9<|Fq V (by exact ⟨_,_,V,Bb B B6 (by simp [zh,Fz,R5])⟩)
 intro D1 H2 ax;obtain ⟨Z,s2,rfl,m⟩:=ax;refine Zn [3] ?_;refine A9<|CD<|Zl KK Y ?_;refine Ax Y<|Gv V (dE results131 Y) Wo (by exact ⟨s2,m,V⟩)
def Ce(pd:AU->Bool)(l:List AU):Nat:=(l.takeWhile (fun x=>!pd x)).length
theorem Gy(g:AU->Bool)(l:List AU):Ce g l<=l.length:=(List.takeWhile_sublist _).length_le
theorem TV{g:AU->Bool}:∀{l:List AU} {i:Nat} {x:AU},l[i]?=some x->g x=true->(∀(j:Nat) (y:AU),j<i->l[j]?=some y->g y=false)->Ce g l=i
 |[],i,x,hx,_,_=>by simp at hx
 |z::l,0,x,hx,hp,_=>by
  simp only [cL,Z3]at hx;subst hx;simp [Ce,hp]
 |z::l,i+1,x,hx,hp,hno=>by
  simp only [dj]at hx;have h0:=hno 0 z A0 rfl
  have m:=TV (l:=l) hx hp (fun j y B hy=>hno (j+1) y A0 hy);unfold Ce at m⊢;rw [S1,B0 (by simp [h0]),EV,m]
theorem Ni{m:AU->Bool}:∀{l:List AU},(∀(j:Nat) (y:AU),l[j]?=some y->m y=false)->Ce m l=l.length
 |[],_=>rfl
 |z::l,hno=>by
  have h0:=hno 0 z rfl;have g:=Ni (l:=l) (fun j y hy=>hno (j+1) y hy)
  unfold Ce at g⊢;rw [S1,B0 (by simp [h0]),EV,g,EV]
def Qt(n len:Nat):Int:=if n<len then(n:Int)else-1
def geV(c:Nat)(lo:Int)(r:AU):Bool:=decide (lo<=Dk r c)
def gtV(c:Nat)(hi:Int)(r:AU):Bool:=decide (hi<Dk r c)
theorem xd(v lo:Int)(bl:Nat):Az prog 129 #[I0 v,I1 bl] [[(bl,.cells #[I0 lo] 3 (0,0))]] (.bool (decide (lo<=v))):=by
 refine Se func129 ntmps129 [0,1] ?_;intro u R;refine A3<|AH Y<|AN Y<|Zl AE Y<|Zv (IL Y Y)<|Ax Y<|AX V results129 Y (by exact ⟨V,V⟩)
theorem yr(r:AU)(c:Nat)(hc:c<=3)(lo:Int)(m g bl:Nat):Az prog 127 #[.agg r.A88,I1 m,I1 g] [[(m,.cells #[.func (.func 129) #[] #[I1 bl]] 108 (0,0))],[(g,.cells #[I0 (c:Int)] 3 (0,0))],[(bl,.cells #[I0 lo] 3 (0,0))]] (.bool (geV c lo r)):=by
 refine Se func127 ntmps127 [0,1,2] ?_;intro u R;refine A3<|Ze (Bx #[_,_,_,_,_])<|AF fun B=>D2 Y<|Aw (n:=6) (0::0::0::6::15::31::[]) 24 AD AD V<|Bk 0 V isAgg108 Y ?_;refine GB 1 V Wh (Pa #[_,_,_,_,_] DE B3 Y) ?_;refine Bk 2 V AE Y ?_;refine Yz 3 6 15 [2,1,0] [false,false,true] [(0,(_,_))] V Y V rfl V rfl (Zu [_,_] Y UP Y V (OL r c hc))<|F1<|CA<|Yw 4 31 V (Zu [_] Y call129 Y V (xd (Dk r c) lo bl))<|F1<|A1 5 V (BI Y)<|Ao<|Zx<|AJ<|AX V results127 Y (by exact ⟨V,V⟩)
variable{L:List AU}
theorem zV(hv:DV M v L)(hn:L.length<=1000000)(c:Nat)(hc:c<=3)(lo:Int)(K J bl:Nat):Az prog 126 #[v,.func (.func 127) #[] #[I1 K,I1 J]] [[(K,.cells #[.func (.func 129) #[] #[I1 bl]] 108 (0,0))],[(J,.cells #[I0 (c:Int)] 3 (0,0))],[(bl,.cells #[I0 lo] 3 (0,0))],M] (I0 (Qt (Ce (geV c lo) L) L.length)):=by
 have af:=mL;obtain ⟨p,cap,rfl,hl,Z⟩:=hv;refine Se func126 ntmps126 [0,1] ?_;intro u R;refine A3<|AH Y<|B7 Y<|Zv (AR C1 Y)<|Zm Y<|A5<|AP<|Zb [8,0,1,7] ?_;refine Ay (e0:=[(8,_)]) (fun m e H=>∃(i:Nat),m=L.length -i/\(i<=L.length/\∀(j:Nat) (y:AU),j<i->L[j]?=some y->geV c lo y=false)/\e=[(8,I0 (i:Int))]/\H=[]) (by exact ⟨0,V,⟨C7 _,by intro j y hj;omega⟩,V,V⟩) Wp ?_;rintro _ _ _ ⟨i,rfl,⟨hi,G⟩,rfl,rfl⟩;refine A3<|Zv (Ar Y Y)<|A5<|Zq<|Ap Y (fun B=>?_) (fun B=>?_);·
  obtain ⟨x,hx⟩:∃x,L[i]?=some x:=⟨_,BE B⟩;obtain ⟨g,off,cur,T,zz,rfl,U,X,I⟩:=Z i x hx;refine B4<|Zq<|AP<|AN Y<|AH Y<|AN Y<|Zm Y<|Zm Y<|Ba (AZ C1 B3 Y Y A0)<|CO (cs:=[(g,.cells cur T zz)]) (by simp [U]) (AA (cs:=x.A88) DE B3 Y A0 I) V rfl<|Xr [_] Y call127 Y V (yr x c hc lo K J bl)<|A5<|AY Y (fun W=>?_) (fun W=>?_);·
   refine AN Y<|Ax Y<|Ag<|Zt<|Zt<|Ag<|Zt<|AX rfl fR Y (by exact ⟨by rw [TV hx W G];unfold Qt;rw [B0 B],rfl⟩)
  refine AC<|A9<|Zx<|E6 Y Y Y<|HB (by exact ⟨i+1,rfl,⟨by omega,fun j y hj hy=>by rcases Ft j i with h9|h9;exact G j y h9 hy;obtain rfl:j=i:=A0;rw [hx]at hy;injection hy with hy;rw [<-hy];exact W⟩,rfl,rfl⟩)
 have O:Ce (geV c lo) L=L.length:=Ni (fun j y hy=>G j y (by have:=(C6.1 hy).1;omega) hy);refine BB<|Zt<|Zt<|AV<|CD<|Ax Y<|AX rfl fR Y (by exact ⟨by rw [O];unfold Qt;rw [As A0],rfl⟩)
theorem xi{J W:A2}(hv:DV M J L)(hn:L.length<=1000000)(c:Nat)(hc:c<=3)(lo:Int)(I m bl:Nat):Az prog 125 #[.func (.func 129) #[] #[I1 bl],I1 I,I1 m] [[(I,.cells #[J,W] 225 (0,0))],[(m,.cells #[I0 (c:Int)] 3 (0,0))],[(bl,.cells #[I0 lo] 3 (0,0))],M] (I0 ((Ce (geV c lo) L:Nat):Int)):=by
 have U:=mL;obtain ⟨p,cap,rfl,Z,X⟩:=id hv;have O:=Gy (geV c lo) L
 refine Se func125 ntmps125 [0,1,2] ?_;intro u R;refine A3<|Ze (Bx #[_])<|AF fun K=>AH Y<|A3<|Zh 0 SD V rfl DH Y<|Zl GS Y<|Zv (Bg (vs:=[]) (us:=[_,_]) Y Y)<|Xr [_,_] Y call126 Y V (zV hv hn c hc lo K m bl)<|AH Y<|B7 Y<|Zv (Dz Y Y)<|A5<|Ap Y (fun g=>?_) (fun g=>?_);·
  have B:Ce (geV c lo) L=L.length:=by
   rcases Ft (Ce (geV c lo) L) L.length with h9|h9
   · unfold Qt at g;rw [B0 h9]at g;omega
   · omega
  refine A3<|Zh 0 SD V rfl DH Y<|Zl GS Y<|Zv (AR C1 Y)<|B1 Y<|Zn [4] ?_;refine Zx<|AJ<|Zt<|AX rfl results125 Y (by exact ⟨by rw [B],rfl⟩)
 have G:Ce (geV c lo) L<L.length:=by
  rcases Ft (Ce (geV c lo) L) L.length with h9|h9
  · exact h9
  · unfold Qt at g;rw [As A0]at g;omega
 refine B4<|AN Y<|Ax Y<|AX rfl results125 Y (by exact ⟨by unfold Qt;rw [B0 G],rfl⟩)
theorem xT(v lo:Int)(bl:Nat):Az prog 130 #[I0 v,I1 bl] [[(bl,.cells #[I0 lo] 3 (0,0))]] (.bool (decide (lo<v))):=by
 refine Se func130 ntmps130 [0,1] ?_;intro u R;refine A3<|AH Y<|AN Y<|Zl AE Y<|Zv (Ev Y Y)<|Ax Y<|AX V results130 Y (by exact ⟨V,V⟩)
theorem yq(r:AU)(c:Nat)(hc:c<=3)(lo:Int)(m g bl:Nat):Az prog 127 #[.agg r.A88,I1 m,I1 g] [[(m,.cells #[.func (.func 130) #[] #[I1 bl]] 108 (0,0))],[(g,.cells #[I0 (c:Int)] 3 (0,0))],[(bl,.cells #[I0 lo] 3 (0,0))]] (.bool (gtV c lo r)):=by
 refine Se func127 ntmps127 [0,1,2] ?_;intro u R;refine A3<|Ze (Bx #[_,_,_,_,_])<|AF fun B=>D2 Y<|Aw (n:=6) (0::0::0::6::15::31::[]) 24 AD AD V<|Bk 0 V isAgg108 Y ?_;refine GB 1 V Wh (Pa #[_,_,_,_,_] DE B3 Y) ?_;refine Bk 2 V AE Y ?_;refine Yz 3 6 15 [2,1,0] [false,false,true] [(0,(_,_))] V Y V rfl V rfl (Zu [_,_] Y UP Y V (OL r c hc))<|F1<|CA<|Yw 4 31 V (Zu [_] Y call130 Y V (xT (Dk r c) lo bl))<|F1<|A1 5 V (BI Y)<|Ao<|Zx<|AJ<|AX V results127 Y (by exact ⟨V,V⟩)
theorem zU(hv:DV M v L)(hn:L.length<=1000000)(c:Nat)(hc:c<=3)(lo:Int)(K J bl:Nat):Az prog 126 #[v,.func (.func 127) #[] #[I1 K,I1 J]] [[(K,.cells #[.func (.func 130) #[] #[I1 bl]] 108 (0,0))],[(J,.cells #[I0 (c:Int)] 3 (0,0))],[(bl,.cells #[I0 lo] 3 (0,0))],M] (I0 (Qt (Ce (gtV c lo) L) L.length)):=by
 have af:=mL;obtain ⟨p,cap,rfl,hl,Z⟩:=hv;refine Se func126 ntmps126 [0,1] ?_;intro u R;refine A3<|AH Y<|B7 Y<|Zv (AR C1 Y)<|Zm Y<|A5<|AP<|Zb [8,0,1,7] ?_;refine Ay (e0:=[(8,_)]) (fun m e H=>∃(i:Nat),m=L.length -i/\(i<=L.length/\∀(j:Nat) (y:AU),j<i->L[j]?=some y->gtV c lo y=false)/\e=[(8,I0 (i:Int))]/\H=[]) (by exact ⟨0,V,⟨C7 _,by intro j y hj;omega⟩,V,V⟩) Wp ?_;rintro _ _ _ ⟨i,rfl,⟨hi,G⟩,rfl,rfl⟩;refine A3<|Zv (Ar Y Y)<|A5<|Zq<|Ap Y (fun B=>?_) (fun B=>?_);·
  obtain ⟨x,hx⟩:∃x,L[i]?=some x:=⟨_,BE B⟩;obtain ⟨g,off,cur,T,zz,rfl,U,X,I⟩:=Z i x hx;refine B4<|Zq<|AP<|AN Y<|AH Y<|AN Y<|Zm Y<|Zm Y<|Ba (AZ C1 B3 Y Y A0)<|CO (cs:=[(g,.cells cur T zz)]) (by simp [U]) (AA (cs:=x.A88) DE B3 Y A0 I) V rfl<|Xr [_] Y call127 Y V (yq x c hc lo K J bl)<|A5<|AY Y (fun W=>?_) (fun W=>?_);·
   refine AN Y<|Ax Y<|Ag<|Zt<|Zt<|Ag<|Zt<|AX rfl fR Y (by exact ⟨by rw [TV hx W G];unfold Qt;rw [B0 B],rfl⟩)
  refine AC<|A9<|Zx<|E6 Y Y Y<|HB (by exact ⟨i+1,rfl,⟨by omega,fun j y hj hy=>by rcases Ft j i with h9|h9;exact G j y h9 hy;obtain rfl:j=i:=A0;rw [hx]at hy;injection hy with hy;rw [<-hy];exact W⟩,rfl,rfl⟩)
 have O:Ce (gtV c lo) L=L.length:=Ni (fun j y hy=>G j y (by have:=(C6.1 hy).1;omega) hy);refine BB<|Zt<|Zt<|AV<|CD<|Ax Y<|AX rfl fR Y (by exact ⟨by rw [O];unfold Qt;rw [As A0],rfl⟩)
theorem xf{J W:A2}(hv:DV M J L)(hn:L.length<=1000000)(c:Nat)(hc:c<=3)(lo:Int)(I m bl:Nat):Az prog 125 #[.func (.func 130) #[] #[I1 bl],I1 I,I1 m] [[(I,.cells #[J,W] 225 (0,0))],[(m,.cells #[I0 (c:Int)] 3 (0,0))],[(bl,.cells #[I0 lo] 3 (0,0))],M] (I0 ((Ce (gtV c lo) L:Nat):Int)):=by
 have U:=mL;obtain ⟨p,cap,rfl,Z,X⟩:=id hv;have O:=Gy (gtV c lo) L
 refine Se func125 ntmps125 [0,1,2] ?_;intro u R;refine A3<|Ze (Bx #[_])<|AF fun K=>AH Y<|A3<|Zh 0 SD V rfl DH Y<|Zl GS Y<|Zv (Bg (vs:=[]) (us:=[_,_]) Y Y)<|Xr [_,_] Y call126 Y V (zU hv hn c hc lo K m bl)<|AH Y<|B7 Y<|Zv (Dz Y Y)<|A5<|Ap Y (fun g=>?_) (fun g=>?_);·
  have B:Ce (gtV c lo) L=L.length:=by
   rcases Ft (Ce (gtV c lo) L) L.length with h9|h9
   · unfold Qt at g;rw [B0 h9]at g;omega
   · omega
  refine A3<|Zh 0 SD V rfl DH Y<|Zl GS Y<|Zv (AR C1 Y)<|B1 Y<|Zn [4] ?_;refine Zx<|AJ<|Zt<|AX rfl results125 Y (by exact ⟨by rw [B],rfl⟩)
 have G:Ce (gtV c lo) L<L.length:=by
  rcases Ft (Ce (gtV c lo) L) L.length with h9|h9
  · exact h9
  · unfold Qt at g;rw [As A0]at g;omega
 refine B4<|AN Y<|Ax Y<|AX rfl results125 Y (by exact ⟨by unfold Qt;rw [B0 G],rfl⟩)
theorem Qa(t c:Int):Az prog 123 #[I0 t,I0 c] [] (.bool (decide ((0<=t/\t<4)/\0<=c/\c<4))):=by
 refine Se func123 ntmps123 [0,1] ?_;intro u R;refine A3<|AH Y<|AN Y<|Zv (IL Y Y)<|Zm Y<|Ae (t:=7) Y V (fun g=>?_) (fun g=>?_);focus
  refine Zf Y Y<|Yg (Dz Y Y)<|BT Y Y<|Zm Y<|Ae (t:=11) Y V (fun h2=>?_) (fun h2=>?_);focus
   refine Zf Y Y<|Yg (IL Y Y)<|BT Y Y<|Zm Y<|Ae (t:=15) Y V (fun m=>?_) (fun m=>?_);refine Zf Y Y<|Yg (Dz Y Y)<|BT Y Y<|B1 Y<|Zn [4] ?_;refine Zx<|AJ<|AX V results123 Y (by exact ⟨by exact congrArg Value.bool (decide_eq_decide.2 A0),V⟩)
  rotate_left
  focus
   refine AG<|BW Y Y<|Zm Y ?_
 rotate_left 2
 focus
  refine AG<|BW Y Y<|Zm Y<|AG<|BW Y Y<|Zm Y ?_
 all_goals
  refine AG<|BW Y Y<|B1 Y<|Zn [4] ?_;refine Zx<|AJ<|AX V results123 Y (by exact ⟨by exact congrArg Value.bool (F0 A0).symm,V⟩)
structure RP where
 tb:Int
 cl:Int
 lo:Int
 hi:Int
 ct:Int
 fi:Int
 rows:List AU
 paths:List (List Bs)
 roots:List Bs
deriving DecidableEq
def CY(L:List AU)(c:Nat)(lo:Int):Nat:=Ce (geV c lo) L -1
def toT(L:List AU)(c:Nat)(hi:Int):Nat:=min (Ce (gtV c hi) L+1) L.length
def Jk(L:List AU)(f k:Nat):List (List Bs):=(List.range k).map fun j=>FY (Ox L) (f+j)
def Et(rs:List AU)(t c:Nat)(lo hi:Int):RP:=
 ⟨t,c,lo,hi,(BO rs (t:Int) c).length,(CY (BO rs (t:Int) c) c lo:Nat),((BO rs (t:Int) c).drop (CY (BO rs (t:Int) c) c lo)).take (toT (BO rs (t:Int) c) c hi -CY (BO rs (t:Int) c) c lo),
   Jk (BO rs (t:Int) c) (CY (BO rs (t:Int) c) c lo) (toT (BO rs (t:Int) c) c hi -CY (BO rs (t:Int) c) c lo),Xx rs⟩
def Kr(M:List A8)(pvs:List A2)(ps:List (List Bs)):Prop:=pvs.length=ps.length/\∀(i:Nat) (v:A2) (l:List Bs),pvs[i]?=some v->ps[i]?=some l->EM M v l
theorem VM(M:List A8):Kr M [] []:=⟨rfl,by intro i v l h;simp at h⟩
theorem Kr.snoc{M':List A8}{g:List A2}{ps:List (List Bs)}(h:Kr M g ps)(hv:EM M' v l)(G:∀c∈M,c∈M'):Kr M' (g++[v]) (ps++[l]):=by
 obtain ⟨B,h2⟩:=h;refine ⟨by rw [C2,C2,B];rfl,?_⟩;intro i w k hi m;rcases Ft i g.length with h9|h9
 · rw [Ys h9]at hi
   rw [Ys A0]at m;exact (h2 i w k hi m).mono G
 · rw [PF h9]at hi
   rw [PF A0]at m;rw [B]at hi;cases h:i -ps.length with
   |zero=>rw [h]at hi m;simp at hi m;rw [<-hi,<-m];exact hv
   |succ n=>rw [h]at hi;simp at hi
theorem YV(L:List AU)(f k:Nat):Jk L f (k+1)=Jk L f k++[FY (Ox L) (f+k)]:=by unfold Jk;rw [kx,CN];rfl
theorem dS(L:List AU)(f k:Nat):(Jk L f k).length=k:=by unfold Jk;rw [Bm,dq]
theorem xH{n:Nat}{xs:List A2}(h:BX 1 e v n xs s):n<=maxLen:=by
 obtain ⟨_,⟨_,h0,_⟩|⟨_,_,_,_,_,_,g,h2,_⟩⟩:=h;· omega
 · omega
theorem Xv(rs:List AU):(Xx rs).length=16:=by unfold Xx;rw [Bm];rfl
def CX(s:List A8):Prop:=∀c∈s,∀cur T z,c.2=Obj.cells cur T z->Gc z cur.size
theorem CX.nil:CX []:=fun c hc=>by cases hc
theorem CX.app{a b:List A8}(g:CX a)(h2:CX b):CX (a++b):=fun c hc=>(CI.1 hc).elim (g c) (h2 c)
theorem EA{sz:Nat}{k:Nat}{xs:List A2}(h:BX sz e v k xs s):CX s:=by
 rcases h with⟨_,⟨_,_,rfl⟩|⟨g,cap,cur,z,_,rfl,_,_,_,_,B⟩⟩
 · exact CX.nil
 · intro c hc m T G e
   rw [CH.1 hc]at e;injection e with e1 e2 e3
   rw [<-e1,<-e3];exact B
set_option maxHeartbeats 4000000 in
theorem dJ(v:A2)(p:Int)(rs:List AU)(s:List A8)(hv:Qz v p rs s)(hs:BN rs)(hn:rs.length<=2000)(ax:∀r∈rs,r.ok)(t c:Nat)(ht:t<=3)(hc:c<=3)(lo hi:Int)(qy:lo<=hi)(Tg:AK)(zg:Nat×Nat):
 BQ prog 80 #[v,I0 (t:Int),I0 (c:Int),I0 lo,I0 hi] [[(4,.cells (Ec.map Cq).toArray Tg zg)],s] (fun r H'=>∃vr vp vt K sp I U Z,r= .tuple #[.agg #[I0 (t:Int),I0 (c:Int),I0 lo,I0 hi,I0 (((BO rs (t:Int) c).length:Nat):Int),I0 (((CY (BO rs (t:Int) c) c lo):Nat):Int),vr,vp,vt],I0 0]/\BX 5 61 vr (((BO rs (t:Int) c).drop (CY (BO rs (t:Int) c) c lo)).take ((toT (BO rs (t:Int) c) c hi) -(CY (BO rs (t:Int) c) c lo))).length (Ad (((BO rs (t:Int) c).drop (CY (BO rs (t:Int) c) c lo)).take ((toT (BO rs (t:Int) c) c hi) -(CY (BO rs (t:Int) c) c lo)))) K/\BX 1 45 vp ((toT (BO rs (t:Int) c) c hi) -(CY (BO rs (t:Int) c) c lo)) I sp/\Kr U I (Jk (BO rs (t:Int) c) (CY (BO rs (t:Int) c) c lo) ((toT (BO rs (t:Int) c) c hi) -(CY (BO rs (t:Int) c) c lo)))/\CX U/\BX 1 9 vt 16 ((Xx rs).map Fz) Z/\H'=[K,sp,U,Z,[(4,.cells (Ec.map Cq).toArray Tg zg)],s]):=by
 have r9:=mL;obtain ⟨sM,sJ,qa,pz,sD,rfl,pg⟩:=id hv;have qz:=J9 hs (t:Int) c
 have ql:=Gy (geV c lo) (BO rs (t:Int) c);have qo:=Gy (gtV c hi) (BO rs (t:Int) c)
 have qw:(CY (BO rs (t:Int) c) c lo)=Ce (geV c lo) (BO rs (t:Int) c) -1:=rfl;have sw:(toT (BO rs (t:Int) c) c hi)=min (Ce (gtV c hi) (BO rs (t:Int) c)+1) (BO rs (t:Int) c).length:=rfl
 refine Se func80 ntmps80 [0,1,2,3,4] ?_;intro u R;refine A3<|Ze (Bx #[_])<|AF fun bc=>Ze (Bx #[_])<|AF fun bl=>Ze (Bx #[_])<|AF fun bh=>Ze (Al dy #[_,_,_,_,_,_,_,_,_])<|AF fun qb=>D2 Y<|AP<|AN Y<|Zv (BZ mA Y Y)<|AH Y<|AY Y (fun h1=>by cases h1)<|fun h1=>AN Y<|Zl AE Y ?_;refine Xr [_,_] Y call123 Y V (Qa (t:Int) (c:Int)) ?_;rw [DO (show((0<=(t:Int)/\(t:Int)<4)/\0<=(c:Int)/\(c:Int)<4) by omega)];refine Zv (Bh Y)<|Zm Y<|Ab (t:=29) Y V (fun h2=>by cases h2)<|fun h2=>Yl AE Y ?_;refine Yl AE Y ?_;refine Yg (Ev Y Y)<|BW Y Y<|B1 Y<|Zn [0,1,7,8,9,10,24] ?_;refine Zx<|Ap Y (fun h3=>by omega)<|fun h3=>AC<|A9<|Zx<|AN Y<|Zm Y<|Zl AE Y ?_;refine Zc [_,_,_] Y call124 Y V (Sl _ p rs s hv hs hn ax (t:Int) c hc) ?_;rintro _ _ ⟨_,⟨vr,ve,sr,se,rfl,hO,rfl⟩,rfl⟩;obtain ⟨qr,cr,rfl⟩:=hO.1.form;obtain ⟨qe,ce,rfl⟩:=hO.2.form;have cu:=Db hO.1 A0
 have l8:EM se (.slice qe (BO rs (t:Int) c).length ce) (Ox (BO rs (t:Int) c)):=Hg (Bb hO.2 (IR _).symm rfl) (by rw [IR];omega);obtain ⟨p9,p8,e9,sj,hg⟩:=id cu;injection e9 with e91 e92 e93
 subst e91 e93;refine Ze (Al j7 #[_,_])<|AF fun ob=>Xe (Xw fg #[.slice qr (BO rs (t:Int) c).length cr,.slice qe (BO rs (t:Int) c).length ce]) ?_;refine A5<|A3<|Zv (Bg (vs:=[]) (us:=[_,_]) Y Y)<|AH Y<|AN Y<|Zv (Bg (vs:=[]) (us:=[_]) Y Y)<|Xr [_] Y call125 Y V (xi cu A0 c hc lo ob bc bl) ?_
 (refine Ba (Gu Y Y (IntWalk.i64_in _ ?_)) ?_;(focus (omega)))
 refine Zv (dz Y Y)<|B1 Y<|Zn [0,1,7,8,9,10,12,13,14] ?_;refine Zx<|Zq<|Aw (n:=9) (0::0::3::7::0::16::48::127::255::[]) 4 AD AD V<|A1 0 V (AQ Y)<|A1 1 V (Bg (vs:=[]) (us:=[_]) Y Y)<|A1 4 V (AB (off:=0) SD V rfl DH Y)<|Bk 5 V GS Y ?_;refine A1 6 V (AR C1 Y)<|Zz (l:=[2])<|C0 [true] [(5,(_,_))] V rfl (Zu [_] Y call125 Y V (xf cu A0 c hc hi ob bc bh)) ?_ (fun _ _ h=>h.elim) Am;rintro _ _ ⟨rfl,rfl⟩;refine CA<|A1 3 V (EW (n:=1) Y Y A0)<|A1 7 V (MU Y Y)<|A1 8 V (BI Y)<|Ao<|Zx<|Zb [0,1,7,8,9,10,12,14,15] ?_;refine Ch (e0:=[(0,_),(1,_),(7,_),(8,_),(9,_)]) (H0:=[]) (fun e H=>∃(pb:Nat) (qt:B8) (ct:Nat) (Z:List A8),(BX 1 9 (.slice qt 16 ct) 16 ((Xx rs).map Fz) Z)/\e=[(16,I1 pb)]/\H=[[(pb,.cells #[I0 (t:Int),I0 (c:Int),I0 lo,I0 hi,I0 (((BO rs (t:Int) c).length:Nat):Int),I0 (((CY (BO rs (t:Int) c) c lo):Nat):Int),.slice none 0 0,.slice none 0 0,.slice qt 16 ct] 65 (0,0))],Z]) Wp ?hx_2 ?hy_2
 case hx_2=>
  refine Aw (n:=13) (0::0::0::0::0::16::48::0::0::256::1023::0::4095::[]) 6656 AD AD V<|A1 0 V (AQ Y)<|Bk 1 V AE Y ?_;refine Bk 2 V AE Y ?_;refine Bk 3 V AE Y ?_;refine A1 4 V (AB (off:=0) SD V rfl DH Y)<|Bk 5 V GS Y ?_;refine A1 6 V (AR C1 Y)<|A1 7 V (AQ Y)<|A1 8 V (AQ Y)<|Zz (l:=[9,11])<|C0 [true,true,true,true] [(5,(_,_)),(3,(_,_)),(2,(_,_)),(1,(_,_))] V rfl (Zw [_] Y call131 Y V (Un _ p rs s hv hs hn ax Tg zg)) ?hk_3 Bz ?hl_3
  case' hk_3=>
   rintro _ _ ⟨_,⟨Z,O,rfl⟩,rfl⟩;refine ⟨Zk (Zk (Zk (Zk (Ac)))),?_⟩;obtain ⟨qt,ct,rfl⟩:=O.form;refine A1 10 V (BM (vs:=[(0,I0 (t:Int)),(1,I0 (c:Int)),(2,I0 lo),(3,I0 hi),(4,I0 (((BO rs (t:Int) c).length:Nat):Int)),(5,I0 (((CY (BO rs (t:Int) c) c lo):Nat):Int)),(8,.slice qt 16 ct)]) (cs:=#[I0 (t:Int),I0 (c:Int),I0 lo,I0 hi,I0 (((BO rs (t:Int) c).length:Nat):Int),I0 (((CY (BO rs (t:Int) c) c lo):Nat):Int),.slice none 0 0,.slice none 0 0,.slice qt 16 ct]) Y (Aa (pl:=#[(0,1),(1,1),(2,1),(3,1),(4,1),(5,1),(6,1),(7,1),(8,1)]) dy DA (fun _=>by kernel_rfl) AD))<|Yz 11 0 4095 [5,3,2,1] [true,true,true,true] [(5,(_,_)),(3,(_,_)),(2,(_,_)),(1,(_,_))] V Y V rfl V rfl (Al dy #[_,_,_,_,_,_,_,_,_]) ?_;rintro _ _ ⟨pb,rfl,rfl⟩;refine ⟨Zk (Zk (Zk (Zk (Ac)))),?_⟩
  case' hl_3=>
   refine C0 [true,true,true,true] [(5,(_,_)),(3,(_,_)),(2,(_,_)),(1,(_,_))] V rfl (Al dy #[_,_,_,_,_,_,_,_,_]) ?hk_7 (fun _ _ h=>h.elim) ?hl_7
   case' hk_7=>
    rintro _ _ ⟨pb,rfl,rfl⟩;refine CA<|Zz (l:=[9])<|C0 [true,true,true,true] [(5,(_,_)),(3,(_,_)),(2,(_,_)),(1,(_,_))] V rfl (Zw [_] Y call131 Y V (Un _ p rs s hv hs hn ax Tg zg)) ?hk_8 Bz ?hl_8
    case' hk_8=>
     rintro _ _ ⟨_,⟨Z,O,rfl⟩,rfl⟩;refine ⟨Zk (Zk (Zk (Zk (Ac)))),?_⟩;obtain ⟨qt,ct,rfl⟩:=O.form;refine A1 10 V (BM (vs:=[(0,I0 (t:Int)),(1,I0 (c:Int)),(2,I0 lo),(3,I0 hi),(4,I0 (((BO rs (t:Int) c).length:Nat):Int)),(5,I0 (((CY (BO rs (t:Int) c) c lo):Nat):Int)),(8,.slice qt 16 ct)]) (cs:=#[I0 (t:Int),I0 (c:Int),I0 lo,I0 hi,I0 (((BO rs (t:Int) c).length:Nat):Int),I0 (((CY (BO rs (t:Int) c) c lo):Nat):Int),.slice none 0 0,.slice none 0 0,.slice qt 16 ct]) Y (Aa (pl:=#[(0,1),(1,1),(2,1),(3,1),(4,1),(5,1),(6,1),(7,1),(8,1)]) dy DA (fun _=>by kernel_rfl) AD)) ?_
    case' hl_8=>
     exact Am
   case' hl_7=>
    exact Am
  all_goals
   refine Yw 12 8191 V (Xw Lo #[I0 (t:Int),I0 (c:Int),I0 lo,I0 hi,I0 (((BO rs (t:Int) c).length:Nat):Int),I0 (((CY (BO rs (t:Int) c) c lo):Nat):Int),.slice none 0 0,.slice none 0 0,.slice qt 16 ct])<|F1<|Ao<|Hx (by exact ⟨pb,qt,ct,Z,O,V,V⟩)
 rintro _ _ ⟨pb,qt,ct,Z,O,rfl,rfl⟩;refine B7 Y<|AH Y<|AP<|Bc<|Bc<|Bc<|Zb [17,10,12,15,16] ?_;refine Ay (e0:=[(17,_)]) (fun m e H=>∃(k:Nat) (d9:A2) (K:List A8) (vp:A2) (sp:List A8) (I:List A2) (U:List A8),m=(toT (BO rs (t:Int) c) c hi) -(CY (BO rs (t:Int) c) c lo) -k/\(k<=(toT (BO rs (t:Int) c) c hi) -(CY (BO rs (t:Int) c) c lo)/\BX 5 61 d9 k (Ad (((BO rs (t:Int) c).drop (CY (BO rs (t:Int) c) c lo)).take k)) K/\BX 1 45 vp k I sp/\Kr U I (Jk (BO rs (t:Int) c) (CY (BO rs (t:Int) c) c lo) k)/\CX U)/\e=[(17,I0 (((CY (BO rs (t:Int) c) c lo)+k:Nat):Int))]/\H=[[(pb,.cells #[I0 (t:Int),I0 (c:Int),I0 lo,I0 hi,I0 (((BO rs (t:Int) c).length:Nat):Int),I0 (((CY (BO rs (t:Int) c) c lo):Nat):Int),d9,vp,.slice qt 16 ct] 65 (0,0))],K,sp,U]) (by exact ⟨0,.slice none 0 0,[],.slice none 0 0,[],[],[],rfl,⟨C7 _,by rw [MT];exact Bi 5 _,Bi 1 _,VM _,CX.nil⟩,rfl,rfl⟩) Wp ?_;rintro _ _ _ ⟨k,d9,K,vp,sp,I,U,rfl,⟨hk,X,W,hP,ic⟩,rfl,rfl⟩;obtain ⟨q2,c2,rfl⟩:=X.form;obtain ⟨q3,c3,rfl⟩:=W.form;refine B7 Y<|Zm Y<|Zv (Ar Y Y)<|A5<|Ap Y (fun l9=>?_) (fun l9=>?_);·
  obtain ⟨x,hx⟩:∃x,(BO rs (t:Int) c)[(CY (BO rs (t:Int) c) c lo)+k]?=some x:=⟨_,BE A0⟩;obtain ⟨g,off,cur,T,zz,rfl,o8,pq,j3⟩:=hg _ x hx;have o9:((BO rs (t:Int) c).drop (CY (BO rs (t:Int) c) c lo))[k]?=some x:=by rw [S2];exact hx
  refine B4<|Zq<|AP<|A3<|Zh 1 SD V rfl Hc Y<|Zl KK Y ?_;refine Zm Y<|Zc [_,_] Y call132 Y rfl (dK l8 (by rw [IR];omega) (fun s h=>by have:=jP (fun r hr=>ax r (Pg hr)) s h;omega) ((CY (BO rs (t:Int) c) c lo)+k) (by rw [IR];omega) Tg zg) ?_;rintro _ _ ⟨_,⟨ow,J,rfl,G,rfl⟩,rfl⟩;have cO:(FY (Ox (BO rs (t:Int) c)) ((CY (BO rs (t:Int) c) c lo)+k)).length<=maxLen:=xH G
  have l5:=Hg G cO;have kv:=YV (BO rs (t:Int) c) (CY (BO rs (t:Int) c) c lo) k▸hP.snoc (l5.mono (fun c h=>Fc U h)) (fun c h=>HC J h)
  obtain ⟨qx,cx,rfl⟩:=G.form;refine Zm Y<|Zd Y V<|Zd Y V<|Za Y<|AH Y<|CK (s1:=J) (s2:=U) Wo Wo ?_;refine Aw (n:=18) (0::1::0::4::0::28::60::124::255::0::512::0::2048::8191::2047::32767::65535::131071::[]) 176512 AD AD V<|A1 0 V (AB (off:=6) DA V rfl DH Y)<|Bk 1 V GS Y ?_;refine A1 2 V (AB (off:=0) SD V rfl DH Y)<|Bk 3 V GS Y ?_;refine A1 4 V (AQ Y)<|A1 5 V (AZ C1 B3 Y Y A0)<|CS (b:=g) (x:= .cells cur T zz) (D':=127) 6 V rfl V (by simp [o8]) (AA (cs:=x.A88) DE B3 Y A0 j3) ?_;refine A1 9 V (AB (off:=7) DA V rfl SR Y)<|Bk 10 V XS Y ?_;refine A1 11 V (AQ Y)<|Zz (l:=[7,12])<|C0 [true,false,false,true] [(10,(_,_)),(1,(_,_))] V rfl (Ah (vs:=[_]) (cs:=[_,_,_,_,_]) C1 B3 G1 Y V rfl V rfl V) ?hk_12 (fun _ _ h=>h.elim) ?hl_12
  case' hk_12=>
   rintro _ _ ⟨af,rfl,rfl⟩;refine CA<|Zz (l:=[8,12])<|C0 [true,false] [(10,(_,_))] V rfl (BS (by_:=40) (sz:=5) C1 (V:Tryz.prog.info? 61=some Tryz.t61) V rfl V rfl Y (X) Y (Dn 5 af 1 1 61 (0,0) [I0 x.t,I0 x.k,I0 x.v.a,I0 x.v.b,I0 x.v.c] V) Wo Wo HQ A0 A0) ?hk_13 (fun _ _ h=>h.elim) ?hl_13
   case' hk_13=>
    rintro _ _ ⟨j5,B,rfl⟩;refine ⟨Zk (Ac),?_⟩;obtain ⟨gq,gm,rfl⟩:=B.form;refine A1 14 V (AB (off:=6) DA V rfl DH Y)<|Zz (l:=[12])<|C0 [true] [(10,(_,_))] V rfl (Ah (vs:=[_]) (cs:=[_]) P2 Hc dv Y V rfl V rfl V) ?hk_14 (fun _ _ h=>h.elim) ?hl_14
    case' hk_14=>
     rintro _ _ ⟨gy,rfl,rfl⟩;refine CA<|Yz 13 8191 32767 [10] [false] [] V Y V rfl V rfl (Ed (by_:=24) (sz:=1) (news:=[_]) P2 (V:Tryz.prog.info? 45=some Tryz.t45) V rfl V rfl Y W Y Wo Wh B2 V ju An A0 A0) ?_
    case' hl_14=>
     exact Am
   case' hl_13=>
    refine C0 [true,true] [(10,(_,_)),(1,(_,_))] V rfl (Ah (vs:=[_]) (cs:=[_]) P2 Hc dv Y V rfl V rfl V) ?hk_19 (fun _ _ h=>h.elim) ?hl_19
    case' hk_19=>
     rintro _ _ ⟨gy,rfl,rfl⟩;refine CA<|Yz 8 255 8191 [10,1] [true,false] [(10,(_,_))] V Y V rfl V rfl (BS (by_:=40) (sz:=5) C1 (V:Tryz.prog.info? 61=some Tryz.t61) V rfl V rfl Y (X) Y (Dn 5 af 1 1 61 (0,0) [I0 x.t,I0 x.k,I0 x.v.a,I0 x.v.b,I0 x.v.c] V) Wo Wo HQ A0 A0) ?_;rintro _ _ ⟨j5,B,rfl⟩;refine ⟨Zk (Ac),?_⟩;obtain ⟨gq,gm,rfl⟩:=B.form;refine A1 14 V (AB (off:=6) DA V rfl DH Y)<|Zz (l:=[13])<|C0 [false] [] V rfl (Ed (by_:=24) (sz:=1) (news:=[_]) P2 (V:Tryz.prog.info? 45=some Tryz.t45) V rfl V rfl Y W Y Wo Wh B2 V ju An A0 A0) ?hk_21 (fun _ _ h=>h.elim) ?hl_21
     case' hl_21=>
      exact Am
    case' hl_19=>
     exact Am
  case' hl_12=>
   refine C0 [true,true,true,true] [(10,(_,_)),(6,(_,_)),(3,(_,_)),(1,(_,_))] V rfl (Ah (vs:=[_]) (cs:=[_]) P2 Hc dv Y V rfl V rfl V) ?hk_25 (fun _ _ h=>h.elim) ?hl_25
   case' hk_25=>
    rintro _ _ ⟨gy,rfl,rfl⟩;refine ⟨Zk (Fs (by simp [*]) (Zk (Zk (Ac)))),?_⟩;refine Yz 7 124 7935 [10,6,3,1] [true,false,false,true] [(10,(_,_)),(1,(_,_))] V Y V rfl V rfl (Ah (vs:=[_]) (cs:=[_,_,_,_,_]) C1 B3 G1 Y V rfl V rfl V)<|AF fun af=>CA<|Yz 8 255 8191 [10,1] [true,false] [(10,(_,_))] V Y V rfl V rfl (BS (by_:=40) (sz:=5) C1 (V:Tryz.prog.info? 61=some Tryz.t61) V rfl V rfl Y (X) Y (Dn 5 af 1 1 61 (0,0) [I0 x.t,I0 x.k,I0 x.v.a,I0 x.v.b,I0 x.v.c] V) Wo Wo HQ A0 A0) ?_;rintro _ _ ⟨j5,B,rfl⟩;refine ⟨Zk (Ac),?_⟩;obtain ⟨gq,gm,rfl⟩:=B.form;refine A1 14 V (AB (off:=6) DA V rfl DH Y)<|Zz (l:=[13])<|C0 [false] [] V rfl (Ed (by_:=24) (sz:=1) (news:=[_]) P2 (V:Tryz.prog.info? 45=some Tryz.t45) V rfl V rfl Y W Y Wo Wh B2 V ju An A0 A0) ?hk_28 (fun _ _ h=>h.elim) ?hl_28
    case' hl_28=>
     exact Am
   case' hl_25=>
    exact Am
  all_goals
   rintro _ _ ⟨sO,bn,rfl⟩;refine ⟨Ac,?_⟩;obtain ⟨qj,q9,rfl⟩:=bn.form;refine Yw 15 65535 V (Zs DH Y Y V (hc:=by exact (V:_=(#[I0 (t:Int),I0 (c:Int),I0 lo,I0 hi,I0 (((BO rs (t:Int) c).length:Nat):Int),I0 (((CY (BO rs (t:Int) c) c lo):Nat):Int),_,_,.slice qt 16 ct]:AM))) (hi:=by(simp;done)))<|F1<|A1 16 V (AB (off:=7) DA V rfl SR Y)<|Zz (l:=[17])<|C0 [] [] V rfl (Zs SR Y Y V (hc:=by exact (V:_=(#[I0 (t:Int),I0 (c:Int),I0 lo,I0 hi,I0 (((BO rs (t:Int) c).length:Nat):Int),I0 (((CY (BO rs (t:Int) c) c lo):Nat):Int),_,_,.slice qt 16 ct]:AM))) (hi:=by(simp;done))) ?_ (fun _ _ h=>h.elim) Am;rintro _ _ ⟨rfl,rfl⟩;refine CA<|Ao<|Zn [10,12,15,16,17] ?_;refine A9<|Zx<|Zg<|Zm Y<|Ya (n:=1) Y Y<|B1 Y<|DM (e:=[(17,_)]) (h:=by exact ⟨k+1,_,_,_,_,I++[_],J++U,rfl,⟨by omega,Bb B rfl (by rw [Bq o9,Br];rfl),Bb bn rfl rfl,kv,CX.app (EA G) ic⟩,rfl,rfl⟩)
 have ek:k=(toT (BO rs (t:Int) c) c hi) -(CY (BO rs (t:Int) c) c lo):=by omega
 subst ek;refine BB<|Zt<|Zt<|AV<|CD<|Zo Wh (AA (cs:=#[I0 (t:Int),I0 (c:Int),I0 lo,I0 hi,I0 (((BO rs (t:Int) c).length:Nat):Int),I0 (((CY (BO rs (t:Int) c) c lo):Nat):Int),.slice q2 _ c2,.slice q3 _ c3,.slice qt 16 ct]) dc Lo Y B9 B2) ?_;refine Xe (Xw Lo #[I0 (t:Int),I0 (c:Int),I0 lo,I0 hi,I0 (((BO rs (t:Int) c).length:Nat):Int),I0 (((CY (BO rs (t:Int) c) c lo):Nat):Int),.slice q2 _ c2,.slice q3 _ c3,.slice qt 16 ct]) ?_;refine Ax Y<|CP rfl results80 Y Wh (Av dc Lo Wn (rfl)) Y (by exact ⟨_,_,_,K,sp,I,U,Z,rfl,Bb X (by rw [Cl,D0];omega) rfl,W,hP,ic,O,rfl⟩)
end Go.Proofs.YtelliknjeemfoaaGreatDoor
