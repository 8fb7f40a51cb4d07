/- digest.Verify. -/
import Derived.Test.YtlkdhannldcfbabGreatDoorTr3
set_option linter.unusedVariables false
set_option linter.unusedSimpArgs false
namespace Go.Proofs.YtlkdhannldcfbabGreatDoor
open Go.Proofs.Tryz
open Go Go.RowKit Gw
set_option maxRecDepth 100000
attribute [local irreducible] Gw.At Gw.Nx Gw.Ops
def Rv(s:Bs):Bool:=!decide (s.length=32)
theorem si{α:Type}(p:α->Bool)(ls:List α)(i:Nat)(x:α)(hx:ls[i]?=some x):(ls.take (i+1)).any p=((ls.take i).any p||p x):=by rw [Bl hx,tM];simp
theorem x6{α:Type}(p:α->Bool)(ls:List α)(i:Nat)(x:α)(hx:ls[i]?=some x)(h:p x=true):ls.any p=true:=lE.2 ⟨x,Ek hx,h⟩
def Il(x:Bs×Bool)(o:Bs):Bs:=if x.2 then HV x.1 o else HV o x.1
variable{x:Bs}
theorem xm{f:Bool}{o:Bs}(h:f=true):Il (x,f) o=HV x o:=Ax h
theorem xn{f:Bool}{o:Bs}(h:f=false):Il (x,f) o=HV o x:=As (by simp [h])
def RL(l:List (Bs×Bool)):List A2:=l.flatMap (fun x=>[EZ x.1,.bool x.2])
theorem TH(l:List (Bs×Bool))(x:Bs×Bool):RL (l++[x])=RL l++[EZ x.1,.bool x.2]:=by unfold RL;rw [On];rfl
def PI(s:Bs):Nat->Nat->List Bs->Option Bs
 |n,_,[]=>if n<=1 then some (Pw s)else none
 |n,i,x::rp=>if n<=1 then none else if i<CF n then(PI s (CF n) i rp).map (fun v=>HV v x)else(PI s (n -CF n) (i -CF n) rp).map (fun v=>HV x v)
def VF(root:Bs)(n i:Nat)(s:Bs)(pf:List Bs):Bool:=!(pf.any Rv)&&decide (PI s n i pf.reverse=some root)
variable{s:Bs}{i n:Nat}
theorem AE8(h:2<=n):PI s n i []=none:=As A0
theorem kz(h:n<=1)(rp:List Bs):PI s n i rp=if rp=[]then some (Pw s)else none:=by
 cases rp with
 |nil=>exact Ax h
 |cons x rp=>exact Ax h
theorem Vu{rp:List Bs}(h:2<=n)(hi:i<CF n):PI s n i (x::rp)=(PI s (CF n) i rp).map (Il (x,false)):=by
 show(if n<=1 then _ else _)=_;rw [As A0,Ax hi];rfl
theorem Sn{rp:List Bs}(h:2<=n)(hi:¬i<CF n):PI s n i (x::rp)=(PI s (n -CF n) (i -CF n) rp).map (Il (x,true)):=by
 show(if n<=1 then _ else _)=_;rw [As A0,As hi];rfl
theorem aN{l:List Bs}{k:Nat}(h:l[k]?=some x):(l.take (k+1)).reverse=x::(l.take k).reverse:=by rw [Bl h,gS];rfl
theorem ZF(w:List (Bs×Bool))(x:Bs×Bool)(o:Option Bs):(o.map (Il x)).map (fun v=>w.foldr Il v)=o.map (fun v=>(w++[x]).foldr Il v):=by
 cases o with
 |none=>rfl
 |some v=>simp
def yz(M:List A8)(v:A2)(ls:List (Bs×Bool)):Prop:=∃p cap,v= .slice p ls.length cap/\(ls.length<=maxLen/\ls.length<=cap)/\∀(i:Nat) (x:Bs×Bool),ls[i]?=some x->∃g off cur T zz,p=some ⟨g,off,none⟩/\(g,Obj.cells cur T zz)∈M/\off+i*2+2<=cur.size/\cur.extract (off+i*2) (off+i*2+2)=#[EZ x.1,.bool x.2]
variable{v:A2}
theorem gG{e:AM}{ls:List (Bs×Bool)}{s:List A8}(h:BU 2 e v ls.length (RL ls) s)(hn:ls.length<=maxLen):yz s v ls:=by
 obtain ⟨b,cap,rfl⟩:=h.form;refine ⟨b,cap,V,⟨hn,Eo h⟩,fun i x hx=>?_⟩;obtain ⟨g,B,cur,z,hv,rfl,G,m⟩:=H7 h i (C7.1 hx).1;injection hv with hv1 hv2 hv3
 refine ⟨g,0,cur,e,z,hv1,by simp,by omega,?_⟩;unfold RL at m;rw [Gi _ 2 (fun _=>rfl) ls i x hx]at m;rw [Dd];exact J0.1 m
theorem qf(xs:List (Bs×Bool))(q:Bs):(bwd xs).foldl (fun o (x:Nat×(Bs×Bool))=>Il x.2 o) q=xs.foldr Il q:=by
 have h:(bwd xs).foldl (fun o (x:Nat×(Bs×Bool))=>Il x.2 o) q=((bwd xs).map Prod.snd).foldl (fun o x=>Il x o) q:=by rw [tW]
 rw [h,Le,List.foldl_reverse]
theorem A72(s:Bs):(Pw s).length=32:=NE _
theorem AF6(a b:Bs):decide (str a=str b)=(!false&&decide (some a=some b)):=by
 have h:(str a=str b)↔a=b:=⟨fun h=>by rw [<-Ib a,<-Ib b,h],fun h=>by rw [h]⟩;simp [h]
theorem qD(x:Bs×Bool)(o:Bs):(Il x o).length=32:=by unfold Il;split<;>exact NE _
theorem qd(xs:List (Nat×(Bs×Bool)))(q:Bs)(g:q.length=32):(xs.foldl (fun o (x:Nat×(Bs×Bool))=>Il x.2 o) q).length=32:=by
 rcases fx xs with rfl|⟨ys,y,rfl⟩
 · exact g
 · rw [nF,X2];exact qD _ _
theorem A78(s:Bs):Au prog 281 #[.string (str s)] [] (.bool (decide (s.length=32))):=by
 refine Se func281 ntmps281 [0] ?_;intro u R;refine A3<|AH Y<|AK Y<|Zv (GL GW Y)<|Zv (CJ (n:=32) Y Y)<|An Y<|AO rfl results281 Y (by exact ⟨by rw [D5],rfl⟩)
theorem A57(s:Bs):Au prog 280 #[.string (str s)] [] (.bool (Rv s)):=by
 refine Se func280 ntmps280 [0] ?_;intro u R;refine A3<|AH Y<|AK Y<|Xr [_] Y call281 Y rfl (A78 s)<|Zv (CG Y)<|An Y<|AO rfl results280 Y (by exact ⟨by unfold Rv;rw [decide_not],rfl⟩)
variable{M:List A8}{ls:List Bs}
theorem jW(hv:Di M v ls)(hn:ls.length<=1000000000):BS prog 313 #[v,.func (.func 280) #[] #[]] [M] (fun r H'=>∃k:Int,r=I4 k/\decide (0<=k)=ls.any Rv/\H'=[M]):=by
 have X:=mL;obtain ⟨p,cap,rfl,Z,U⟩:=hv;refine Se func313 ntmps313 [0,1] ?_;intro u R;refine A3<|AH Y<|B8 Y<|Zv (AR DO Y)<|Zm Y<|A4<|AQ<|Zb [8,0,1,7] ?_;refine Aw (e0:=[(8,_)]) (fun m e H=>∃(i:Nat),m=ls.length -i/\(i<=ls.length/\(ls.take i).any Rv=false)/\e=[(8,I4 (i:Int))]/\H=[]) (by exact ⟨0,V,⟨CM _,V⟩,V,V⟩) Wp ?_;rintro _ _ _ ⟨i,rfl,⟨W,B⟩,rfl,rfl⟩;refine A3<|Zv (Ap Y Y)<|A4<|Zq<|Ak Y (fun J=>?_) (fun J=>?_);·
  obtain ⟨x,hx⟩:∃x,ls[i]?=some x:=⟨_,BT J⟩;obtain ⟨g,off,cur,T,zz,rfl,K,I⟩:=U i x hx;refine B3<|Zq<|AQ<|AK Y<|AH Y<|AK Y<|Zm Y<|Zm Y<|BX (Bg DO FG Y Y A0)<|Bu (cs:=[(g,.cells cur T zz)]) (by simp [K]) (BK H3 Y I) V rfl<|Xr [_] Y call280 Y V (A57 x)<|A4<|AY Y (fun G=>?_) (fun G=>?_);·
   refine AK Y<|An Y<|Ag<|Zt<|Zt<|Ag<|Zt<|AO rfl results313 Y (by exact ⟨(i:Int),rfl,by rw [x6 _ ls i x hx G];exact DE A0,rfl⟩)
  refine AC<|AA<|Zx<|Dg Y Y Y<|DG (e:=[(8,_)]) (h:=by exact ⟨i+1,rfl,⟨by omega,by rw [si _ ls i x hx,B];exact G⟩,rfl,rfl⟩)
 have O:i=ls.length:=by omega
 subst O;rw [HE]at B;refine BA<|Zt<|Zt<|AX<|C6<|An Y<|AO rfl results313 Y (by exact ⟨-1,rfl,by rw [B];rfl,rfl⟩)
theorem VZ(hv:Di M v ls)(hn:ls.length<=1000000000):Au prog 282 #[v,.func (.func 280) #[] #[]] [M] (.bool (ls.any Rv)):=by
 refine Se func282 ntmps282 [0,1] ?_;intro u R;refine A3<|AH Y<|AK Y<|Zm Y<|Zc [_,_] Y call313 Y V (jW hv hn) ?_;rintro _ _ ⟨_,⟨k,rfl,g,rfl⟩,rfl⟩;refine Zv (Ga Y Y)<|An Y<|AO rfl results282 Y (by exact ⟨by rw [<-g],rfl⟩)
theorem AD3(hv:Di M v ls)(hn:ls.length<=1000000000):Au prog 208 #[v] [M] (.bool (!(ls.any Rv))):=by
 refine Se func208 ntmps208 [0] ?_;intro u R;refine A3<|AH Y<|A3<|AH Y<|AK Y<|Zm Y<|Xr [_,_] Y call282 Y V (VZ hv hn)<|Zv (Bo Y)<|An Y<|AO V results208 Y (by exact ⟨V,V⟩)
theorem nP(p:BE)(cap:Nat):Au prog 209 #[.slice p 0 cap] [] (.tuple #[.string (str []),.slice none 0 0,.bool false]):=by
 refine Se func209 ntmps209 [0] ?_;intro u R;refine A3<|Za Y<|Za Y<|AH Y<|B8 Y<|Zv (AR DO Y)<|Zv (CJ (n:=0) Y Y)<|A4<|Ak Y (fun g=>?_) (fun g=>?_);·
  refine A3<|Za Y<|Za Y<|An Y<|Zt<|SL V results209 Y Y Y (by exact ⟨V,V⟩)
 exfalso;omega
theorem nO{p:BE}{cap:Nat}(hv:Di M (.slice p ls.length cap) ls)(k:Nat)(x:Bs)(J:ls.length=k+1)(hx:ls[k]?=some x):Au prog 209 #[.slice p ls.length cap] [M] (.tuple #[.string (str x),.slice p k cap,.bool true]):=by
 have O:=mL;obtain ⟨U,cap2,e,K,I⟩:=hv;injection e with e1 e2 e3
 subst e1 e3;rw [J]at K⊢;obtain ⟨g,off,cur,T,zz,rfl,B,m⟩:=I k x hx;refine Se func209 ntmps209 [0] ?_;intro u R;refine A3<|Za Y<|Za Y<|AH Y<|B8 Y<|Zv (AR DO Y)<|Zv (CJ (n:=0) Y Y)<|A4<|Ak Y (fun G=>by omega)<|fun G=>B3<|AK Y<|Zv (AR DO Y)<|Yb (n:=1) Y Y<|CT Y<|Ay (n:=10) (0::0::3::7::0::0::48::15::255::511::[]) 0 AD AD V<|A1 0 V (AP Y)<|A1 1 V (AP Y)<|A1 2 V (Bg DO FG Y Y A0)<|Cn (b:=g) (x:= .cells cur T zz) (D':=15) 3 V rfl V (by simp [B]) (BK H3 Y m) ?_;refine A1 4 V (AP Y)<|A1 5 V (AP Y)<|A1 6 V (Bn DO FG Y Y A0)<|A1 7 V (BC Y)<|A1 8 V (BC Y)<|A1 9 V (BC Y)<|Aq<|Zn [2,3,4] ?_;refine Zx<|AL<|SL V results209 Y Y Y (by exact ⟨V,V⟩)
def u5(pf:List Bs)(k:Nat):Bs:=if k=0 then []else pf.getD (k -1) []
def yT(p:BE)(k cap:Nat):A2:=if k=0 then .slice none 0 0 else .slice p (k -1) cap
theorem A06{p:BE}{cap:Nat}{pf:List Bs}(hv:Di M (.slice p pf.length cap) pf)(k:Nat)(m:k<=pf.length):Au prog 209 #[.slice p k cap] [M] (.tuple #[.string (str (u5 pf k)),yT p k cap,.bool (decide (0<k))]):=by
 rcases k with _|k
 · exact Mv (nP p cap)
 · have hx:(pf.take (k+1))[k]?=some (pf.getD k []):=by
    rw [HR,Ax A0,OR,BT A0];rfl
   have g:(pf.take (k+1)).length=k+1:=by rw [Cd];omega
   have h:=hv.take (k+1) m;have h2:=nO (ls:=pf.take (k+1)) (p:=p) (cap:=cap) (by rw [g];exact h) k _ g hx
   rw [g]at h2;exact h2
theorem jR(x:Bs)(f:Bool)(o:Bs)(hx:x.length<=1000000000)(G:o.length<=1000000000)(g:AM)(B:Nat×Nat):Au prog 212 #[.agg #[.string (str x),.bool f],.string (str o)] [[(0,.cells (Dn.map CW).toArray g B)]] (.string (str (Il (x,f) o))):=by
 refine Se func212 ntmps212 [0,1] ?_;intro u R;refine A3<|Ze (Bx #[_,_])<|AF fun I=>CT Y<|A3<|Zh 1 pB V rfl F1 Y<|Zl G0 Y<|A4<|AY Y (fun m=>?_) (fun m=>?_);·
  refine A3<|Zh 0 pB rfl rfl FG Y<|Zl H3 Y<|Zm Y<|Xr [_,_] Y call79 Y rfl (NW x o hx G g B)<|An Y<|Zt<|AO rfl results212 Y (by exact ⟨by rw [xm m],rfl⟩)
 refine B3<|AK Y<|Zh 0 pB rfl rfl FG Y<|Zl H3 Y<|Xr [_,_] Y call79 Y rfl (NW o x G hx g B)<|An Y<|AO rfl results212 Y (by exact ⟨by rw [xn m],rfl⟩)
theorem Vl(p:BE)(n c:Nat):BS prog 211 #[.slice p n c] [] (fun r H'=>∃b,r= .func (.func 283) #[] #[I5 b]/\H'=[[(b,.cells #[.slice p n c] 344 (0,0))]]):=by
 refine Se func211 ntmps211 [0] ?_;intro u R;refine A3<|Ze (Bx #[_])<|AF fun b=>AH Y<|A3<|Zv (Be (vs:=[]) (us:=[_]) Y Y)<|An Y<|AO V results211 Y (by exact ⟨_,V,V⟩)
theorem Vm{ls:List (Bs×Bool)}(hv:yz M v ls)(b:Nat)(hn:ls.length<=1000000000000):
 Eg prog 283 #[I5 b] [[(b,.cells #[v] 344 (0,0))]] (fun s=>∀c∈M,c∈s) (fun x=>#[I4 ((x.1:Nat):Int),.agg #[EZ x.2.1,.bool x.2.2]]) (bwd ls):=by
 have ax:=mL;obtain ⟨p,cap,rfl,hl,hg⟩:=hv;intro l J hA hy s B;refine Se func283 ntmps283 [0,1] ?_;intro u R;refine A3<|Zl isAgg344 Y ?_;refine Zv (AR pC Y)<|BX (GZ Y Y (IntWalk.i64_in _ A0))<|AH Y<|AQ<|Zb [3,0,1] ?_;refine Aw (e0:=[(3,_)]) (fun m e H=>∃(k:Nat) (s:List A8),m=0+k/\(k<=ls.length/\J ((bwd ls).take (ls.length -k)) s)/\e=[(3,I4 ((k:Int) -1))]/\H=[[(b,.cells #[.slice p ls.length cap] 344 (0,0))],s]) (by exact ⟨ls.length,s,rfl,⟨D0 _,by rw [W5,JT];exact B⟩,rfl,rfl⟩) Wp ?_;rintro _ _ _ ⟨k,s,rfl,⟨hk,B⟩,rfl,rfl⟩;refine B8 Y<|Zv (Ga Y Y)<|A4<|Ak Y (fun X=>?_) (fun X=>?_);·
  obtain ⟨m,rfl⟩:∃m,k=m+1:=⟨k -1,by omega⟩;rw [show(((m+1:Nat):Int) -1)=((m:Nat):Int) by omega];obtain ⟨z9,O⟩:∃z9,ls[m]?=some z9:=⟨_,BT A0⟩;have G:=Yn O
  obtain ⟨g,o,cur,T,zz,rfl,hm,I⟩:=hg m z9 O
  (obtain ⟨af,K⟩:=I)
  have Z:=hy _ _ _ s (M9 G) B;refine B3<|Zq<|AQ<|AK Y<|Zm Y<|Zl isAgg344 Y ?_;refine Zm Y<|BX (AZ pC sizeOf348 Y Y A0)<|Bu (cs:=[(g,.cells cur T zz)]) (by simp [hA _ s B _ hm]) (A9 (cs:=#[_,_]) isAgg348 sizeOf348 Y A0 K) V rfl ?_;refine Ze (GH (vs:=[_,_]) Y Y (Z) Wp) ?_;rintro _ _ ⟨_,⟨s',rfl,rfl,U⟩,rfl⟩;refine Zv (Bo Y)<|A4<|AY Y (fun hb=>by cases hb)<|fun hb=>AC<|AA<|Zx<|Zg<|Zm Y<|BX (GZ Y Y (IntWalk.i64_in _ A0))<|B2 Y<|DG (e:=[(3,_)]) (h:=by exact ⟨m,s',rfl,⟨by omega,by rw [show ls.length -m=ls.length -(m+1)+1 by omega,Bl G];exact U⟩,rfl,rfl⟩)
 have W:k=0:=by omega
 subst W;rw [Sf,Kx (by rw [SY];exact D0 _)]at B;refine BA<|Zt<|Zt<|AX<|DC V results283 (by exact ⟨s,V,B⟩)
theorem ZJ{pf:List Bs}(hv:Di M v pf)(hn:pf.length<=1000000)(root s:Bs)(hs:s.length<=140737488354000)(n i:Nat)(hi:i<n)(hb:n<=1000000)(Tg:AM)(zg:Nat×Nat):
 Au prog 126 #[.string (str root),I4 (n:Int),I4 (i:Int),.string (str s),v] [[(0,.cells (Dn.map CW).toArray Tg zg)],M] (.bool (VF root n i s pf)):=by
 have o9:=mL;obtain ⟨p,cap,rfl,hl,hg⟩:=id hv;refine DF func126 V ntmps126 V ?_;intro u R;refine Zb [0,1,2,3,4] ?_;refine A3<|AH Y<|B8 Y<|Zv (Ap (n:=0) Y Y)<|Zm Y<|Af (t:=21) Y V (fun h1=>by omega)<|fun h1=>Zf Y Y<|Zf Y Y<|Yg (Ef Y Y)<|B9 Y Y<|Zm Y<|Af (t:=26) Y V (fun h2=>by omega)<|fun h2=>Zf Y Y<|Xr [_] Y call208 Y V (AD3 hv A0) ?_;refine Yg (Bo Y)<|B9 Y Y<|Z0<|Zn [0,1,2,3,4,30] ?_;refine Zx<|AY Y (fun ha=>?_) (fun ha=>?_);·
  have J:pf.any Rv=true:=by simpa using ha
  refine A3<|An Y<|Zt<|Ke rfl (TZ results126 Y) (by exact ⟨by unfold VF;rw [J];rfl,rfl⟩)
 have J:pf.any Rv=false:=by simpa using ha
 have cO:∀x∈pf,x.length=32:=fun x hx=>by have h:=List.any_eq_false.1 J x hx;simpa [Rv]using h
 refine AC<|C6<|CT Y<|AQ<|Bc<|Zb [1,2,4,11,0,3] ?_;refine Aw (e0:=[(1,_),(2,_),(4,_),(11,_)]) (fun m e H=>∃(G i2 k:Nat) (g:List (Bs×Bool)) (vw:A2) (sw:List A8),m=0+G/\(k<=pf.length/\i2<G/\G<=n/\PI s n i pf.reverse=(PI s G i2 (pf.take k).reverse).map (fun v=>g.foldr Il v)/\BU 2 348 vw g.length (RL g) sw/\g.length+k=pf.length/\(∀x∈g,x.1.length=32))/\e=[(1,I4 (G:Int)),(2,I4 (i2:Int)),(4,.slice p k cap),(11,vw)]/\H=[sw]) (by exact ⟨n,i,pf.length,[],.slice none 0 0,[],rfl,⟨D0 _,hi,D0 _,by rw [HE];simp,Bh 2 _,by simp,by simp⟩,rfl,rfl⟩) Wp ?_;rintro _ _ _ ⟨G,i2,k,g,vw,sw,rfl,⟨hk,l5,p8,B,bn,p9,U⟩,rfl,rfl⟩;obtain ⟨qw,cw,rfl⟩:=bn.form;refine B8 Y<|Zv (DX (n:=1) Y Y)<|A4<|Ak Y (fun gy=>?_) (fun gy=>?_);·
  have h9:2<=G:=by omega
  have l8:=K4 h9;have l9:=JY G
  have o8:=vj h9;refine B3<|AQ<|AK Y<|Xr [_] Y call209 Y V (A06 hv k hk) ?_;refine Zm Y<|Zd Y V<|Zd Y V<|Zd Y V<|Za Y<|Za Y<|AH Y<|B8 Y<|Zv (CG Y)<|Z0<|Zn [0,1,2,3,11,12,13,40] ?_;refine Zx<|Ak Y (fun ht=>?_) (fun ht=>?_);·
   have gm:k=0:=by omega
   subst gm;rw [JT,List.reverse_nil,AE8 h9]at B;refine A3<|An Y<|Zt<|Ag<|Zt<|Ag<|Zt<|Ke rfl (TZ results126 Y) (by exact ⟨by unfold VF;rw [B,J];rfl,rfl⟩)
  obtain ⟨k,rfl⟩:∃m,k=m+1:=⟨k -1,by omega⟩;obtain ⟨X,O⟩:∃x,pf[k]?=some x:=⟨_,BT A0⟩;have gq:u5 pf (k+1)=X:=by show pf.getD k []=X;rw [OR,O];rfl
  have cu:=cO X (Ek O);have W:∀f:Bool,∀y∈g++[(X,f)],y.1.length=32:=fun f y hy=>by rcases CD.1 hy with hy|hy;exact U y hy;rw [CH]at hy;rw [hy];exact cu
  rw [gq];refine B3<|AK Y<|AH Y<|AK Y<|Xr [_] Y call210 Y V (X8 G h9 A0) ?_;refine AH Y<|AK Y<|Zm Y<|Zm Y<|Zm Y<|Zv (Ef Y Y)<|Zv (BN (vs:=[(0,_),(1,_)]) (cs:=#[_,_]) Y (Aa (pl:=#[(0,1),(1,1)]) zeroValue348 pB (fun _=>by kernel_rfl) V))<|Ze (Ah (vs:=[_]) (cs:=[_,_]) pC sizeOf348 zeroValue348 Y V rfl V rfl V)<|AF fun b1=>Ze (Ed (by_:=24) (sz:=2) (news:=[_,_]) pC (V:Tryz.prog.info? 348=some Tryz.t348) V rfl V rfl Y bn Y Wo Wh B1 V kc B0 A0 A0) ?_;rintro _ _ ⟨pg,K,rfl⟩;obtain ⟨kv,j5,rfl⟩:=K.form;refine B2 Y<|Zn [0,1,2,3,4,11,15] ?_;refine Zx<|AK Y<|Zm Y<|Zv (Ef Y Y)<|A4<|Ak Y (fun af=>?_) (fun af=>?_);·
   have Z:decide (CF G<=i2)=true:=DE af;refine Zg<|Zm Y<|Zm Y<|Yb Y Y<|Zm Y<|Zm Y<|Yb Y Y<|Za Y<|B2 Y<|AA<|DG (e:=[(1,_),(2,_),(4,_),(11,_)]) (h:=by exact ⟨G -CF G,i2 -CF G,k,g++[(X,true)],_,_,rfl,⟨by omega,by omega,by omega,by rw [B,aN O,Sn h9 A0,ZF],BZ K B7 (by rw [TH];exact congrArg (fun b=>RL g++[EZ X,.bool b]) Z),by rw [C0];simp;omega,W true⟩,rfl,rfl⟩)
  have Z:decide (CF G<=i2)=false:=DQ af;refine Zg<|Zm Y<|B2 Y<|AA<|DG (e:=[(1,_),(2,_),(4,_),(11,_)]) (h:=by exact ⟨CF G,i2,k,g++[(X,false)],_,_,rfl,⟨by omega,by omega,by omega,by rw [B,aN O,Vu h9 A0,ZF],BZ K B7 (by rw [TH];exact congrArg (fun b=>RL g++[EZ X,.bool b]) Z),by rw [C0];simp;omega,W false⟩,rfl,rfl⟩)
 refine BA<|Zt<|Zt<|AX<|Zx<|AK Y<|Xr [_] Y call78 Y V (X9 s hs Tg zg) ?_;refine Ze (Al I2 #[_])<|AF fun ob=>Xe (Zs FG Y Y V (hc:=by exact (V:_=(#[EZ (Pw s)]:AN)))) ?_;refine A4<|B8 Y<|Zc [_] Y call211 Y V (Vl _ _ _) ?_;rintro _ _ ⟨_,⟨bb,rfl,rfl⟩,rfl⟩;refine A4<|AQ<|Zb [0,4,16,65] ?_;refine Yu (H0:=_) (R:=_) (I:=(fun pre H=>H=[[(ob,.cells #[EZ (pre.foldl (fun o (x:Nat×(Bs×Bool))=>Il x.2 o) (Pw s))] 9 (0,0))],sw,[(0,.cells (Dn.map CW).toArray Tg zg)]])) (E:=fun x e Hn=>∃bx,e=[(18,I5 bx),(67,.agg #[EZ x.2.1,.bool x.2.2]),(66,I4 ((x.1:Nat):Int))]/\Hn=[[(bx,.cells #[EZ x.2.1,.bool x.2.2] 348 (0,0))]]) V Y call283 (Vm (ls:=g) (gG bn A0) bb A0) (fun pre H1 c d h=>by subst h;intro x hx;simp [hx]) Y V Wp (V) ?ha_7 ?hbd_7 ?hk_7
 case ha_7=>
  intro _ x _ _;refine Zg<|Ze (Al zeroValue348 #[_,_])<|AF fun bx=>Xe (BJ sizeOf348 Y Y (by simp [EZ,Value.oneCell']) Wu (by exact (rfl:_=(#[EZ x.2.1,.bool x.2.2]:AN))) G4 Wn (by exact BB _)) ?_;refine Z0<|LP (e:=[(18,_),(67,_),(66,_)]) (Hn:=[[(_,_)]]) ?_;exact ⟨_,V,V⟩
 case hbd_7=>
  intro l pre x ic u e9 j3 H1 R1 gQ hI d9;obtain ⟨bx,rfl,rfl⟩:=d9;subst hI;refine AQ<|Zg<|Zo Wh (Pa #[_,_] isAgg348 sizeOf348 Y) ?_;refine Zl H3 Y ?_;refine Xr [_,_] Y call212 Y rfl (jR x.2.1 x.2.2 _ (by rw [U _ (mY (Qw gQ))];omega) (by rw [qd _ _ (A72 s)];omega) Tg zg) ?_;refine Xe (Zs FG Y Y V) ?_;refine Z0<|AA<|FZ rfl (by rw [X2])
 intro D1 H2 ek;subst ek;refine Zn [0,4,16] ?_;refine AA<|Zx<|AK Y<|Zv (AR DO Y)<|Zv (CJ (n:=0) Y Y)<|Zm Y<|Af (t:=74) Y V (fun hz=>?_) (fun hz=>?_);·
  have ax:G<=1:=by omega
  subst hz;rw [kz ax,Ax B7]at B;refine Yl H3 Y ?_;refine Zf Y Y<|Yg (NU Y Y)<|C1 Y Y<|An Y<|G7 rfl (TZ results126 Y) Wo (by exact ⟨by unfold VF;rw [J,B,qf];exact congrArg Value.bool (AF6 _ _),rfl⟩)
 have ax:G<=1:=by omega
 rw [kz ax,As (by intro e;have e2:(pf.take k).reverse.length=0:=(by rw [e];rfl);rw [kq,Cd]at e2;omega)]at B;refine A7 Y rfl<|A7 Y rfl<|A7 Y rfl<|B9 Y Y<|An Y<|G7 rfl (TZ results126 Y) Wo (by exact ⟨by unfold VF;rw [J,B];rfl,rfl⟩)
def Mt(r:AV):Bs:=El [r.t,r.k]++El [r.v.a,r.v.b,r.v.c]
variable{r:AV}
theorem Y3(h:r.ok):(∀n∈[r.t,r.k],-4611686018427387903<=n/\n<=4611686018427387903)/\(∀n∈[r.v.a,r.v.b,r.v.c],-4611686018427387903<=n/\n<=4611686018427387903):=by
 obtain ⟨⟨g,h2,m⟩,B,G⟩:=h;unfold inV at g h2 m;constructor
 · intro n hn
   simp only [DS,PA,PF]at hn;rcases hn with rfl|rfl<;>omega
 · intro n hn
   simp only [DS,PA,PF]at hn;rcases hn with rfl|rfl|rfl<;>omega
theorem Ur(h:r.ok):(Mt r).length<=45:=by
 have g:=ES _ (Y3 h).1;have h2:=ES _ (Y3 h).2
 unfold Mt;rw [C0];simp only [F2,MY]at g h2;omega
theorem A79(a b:Int):Ji #[I4 a,I4 b] 0 [a,b]:=by
 intro i n h;rcases i with _|_|i
 · simp at h;subst h;rfl
 · simp at h;subst h;rfl
 · simp at h
theorem wJ(r:AV):Ji r.BM4 2 [r.v.a,r.v.b,r.v.c]:=by
 intro i n h;rcases i with _|_|_|i
 · simp at h;subst h;rfl
 · simp at h;subst h;rfl
 · simp at h;subst h;rfl
 · simp at h
theorem WG(r:AV)(B:r.ok):Au prog 125 #[.agg r.BM4] [] (.tuple #[.string (str (Mt r)),I4 0]):=by
 have hn:=Y3 B;have g:=ES _ hn.1
 have m:=ES _ hn.2;simp only [F2,MY]at g m;refine Se func125 ntmps125 [0] ?_;intro u R;refine A3<|Ze (Bx #[_,_,_,_,_])<|AF fun G=>Za Y<|CT Y<|A3<|Zo Wh (Pa #[_,_,_,_,_] DM B6 Y)<|Xr [_] Y call207 Y V (TN r) ?_;rw [DE B];refine Zv (Bo Y)<|A4<|AY Y (fun hv=>by cases hv)<|fun hv=>B3<|Zq<|Ay (n:=12) (0::1::0::4::15::31::0::64::255::511::1023::2047::[]) 304 AD AD V<|A1 0 V (AB (off:=0) HC V rfl A6 Y)<|Bm 1 V AE Y<|A1 2 V (AB (off:=1) HC V rfl A6 Y)<|Bm 3 V AE Y<|A1 6 V (AB (off:=2) HC V rfl E4 Y)<|A1 7 V (FY K1 A6 Y)<|Zz (l:=[4])<|BW [false,false] [] V rfl (Ah (vs:=[_,_]) (cs:=[_,_]) DP A6 HT Y V rfl V rfl V) ?_ (fun _ _ h=>h.elim) Aj;rintro _ _ ⟨gb,rfl,rfl⟩;refine C3<|Yw 5 255 V (Zu [_] Y call204 Y V (TR gb 0 2 _ _ _ [r.t,r.k] (A79 r.t r.k) B7 hn.1))<|F0<|Yw 8 511 V (Zu [_] Y call204 Y V (TR G 2 3 _ _ _ [r.v.a,r.v.b,r.v.c] (wJ r) B7 hn.2))<|F0<|A1 9 rfl (JO Y Y (by rw [D5,D5];omega))<|A1 10 rfl (BC Y)<|A1 11 rfl (BC Y)<|Aq<|Zn [2,3] ?_;refine Zx<|AL<|DR rfl results125 Y Y (by exact ⟨by rw [LA];rfl,rfl⟩)
def BO(rs:List AV)(t:Int)(c:Nat):List AV:=Dw rs t c (-1000000000) 1000000000
variable{rs:List AV}
theorem Ih(g:BM rs)(t:Int)(c:Nat):(BO rs t c).length<=rs.length:=by
 unfold BO;rw [(Ec rs t c _ _).length_eq];exact Tl _ _
theorem Qh{t:Int}{c:Nat}{lo hi:Int}(h:r∈Dw rs t c lo hi):r∈rs:=(GF.1 ((Ec rs t c lo hi).mem_iff.1 h)).1
def Nl(l:List AV):List Bs:=l.map Mt
theorem Hl(l:List AV):(Nl l).length=l.length:=Bk ..
theorem AA9{l:List AV}{x:AV}(h:l[i]?=some x):(Nl (l.take (i+1))).map EZ=(Nl (l.take i)).map EZ++[.string (str (Mt x))]:=by
 rw [Bl h];unfold Nl;rw [CN,CN];rfl
def z8(l:List AV)(vr ve:A2)(sr se:List A8):Prop:=BU 5 83 vr (l).length (Ae (l)) sr/\BU 1 9 ve l.length ((Nl l).map EZ) se
theorem UE(v:A2)(p:Int)(rs:List AV)(s:List A8)(hv:RG v p rs s)(hs:BM rs)(hn:rs.length<=2000)(af:∀r∈rs,r.ok)(t:Int)(c:Nat)(hc:c<=3):
 BS prog 152 #[v,I4 t,I4 (c:Int)] [s] (fun r H'=>∃vr K W J,r= .agg #[vr,K]/\z8 (BO rs t c) vr K W J/\H'=[W,J,s]):=by
 have gm:=mL;have ek:=Ih hs t c
 refine Se func152 ntmps152 [0,1,2] ?_;intro u R;refine A3<|Ze (Al mC #[_,_])<|AF fun qb=>A4<|AK Y<|Zm Y<|Zm Y<|Zc [_,_,_,_,_] Y call100 Y V (ZT v p rs s hv t c (-1000000000) 1000000000 hc) ?_;rintro _ _ ⟨_,⟨W,G,rfl⟩,rfl⟩;change BU 5 83 _ (BO rs t c).length (Ae (BO rs t c)) W at G;obtain ⟨qr,cr,rfl⟩:=G.form;have X:=Dl G A0
 obtain ⟨p9,bn,e9,gq,hg⟩:=id X;injection e9 with e91 e92 e93
 subst e91 e93;refine Zv (BN (vs:=[(0,_)]) (cs:=#[_,_]) Y (Aa (pl:=#[(0,1),(1,1)]) mC S3 (fun _=>by kernel_rfl) V))<|Ze (Al mC #[_,_])<|AF fun ob=>Xe (BJ k8 Y Y (by(simp [Value.oneCell',Value.cells];done)) Wu (by exact (rfl:_=(#[.slice qr (BO rs t c).length cr,.slice none 0 0]:AN))) G4 B0 (by exact BB _))<|A4<|Zq<|A3<|Zh 0 S3 rfl rfl E3 Y<|Zl GP Y<|Zv (AR C2 Y)<|Zm Y<|A4<|AQ<|Bc<|Zb [20,6,7,18,19] ?_;refine Aw (e0:=[(20,_)]) (fun m e H=>∃(i:Nat) (K:A2) (J:List A8),m=(BO rs t c).length -i/\(i<=(BO rs t c).length/\BU 1 9 K i ((Nl ((BO rs t c).take i)).map EZ) J)/\e=[(20,I4 (i:Int))]/\H=[[(ob,.cells #[.slice qr (BO rs t c).length cr,K] 186 (0,0))],J]) (by exact ⟨0,.slice none 0 0,[],V,⟨CM _,Bh 1 _⟩,V,V⟩) Wp ?_;rintro _ _ _ ⟨i,K,J,rfl,⟨hi,B⟩,rfl,rfl⟩;obtain ⟨qe,ce,rfl⟩:=B.form;refine A3<|Zv (Ap Y Y)<|A4<|Zq<|Ak Y (fun U=>?_) (fun U=>?_);·
  obtain ⟨x,hx⟩:∃x,(BO rs t c)[i]?=some x:=⟨_,BT U⟩;obtain ⟨g,off,cur,T,zz,rfl,Z,cu,O⟩:=hg i x hx;have ax:=af x (Qh (Ek hx))
  refine B3<|Zq<|AQ<|A3<|BX (AZ C2 B6 Y Y A0)<|Bu (cs:=[(g,.cells cur T zz)]) (by simp [Z]) (A9 (cs:=x.BM4) DM B6 Y A0 O) V rfl<|Ze (Al Ft #[_,_,_,_,_])<|AF fun xb=>Xe (Xw B6 x.BM4)<|A4<|A3<|Zo Wh (Pa #[_,_,_,_,_] DM B6 Y)<|Xr [_] Y call125 Y V (WG x ax)<|Zm Y<|Zd Y V<|Zd Y V<|Za Y<|AH Y<|Zg<|Zh 1 S3 V rfl Hc Y<|Zl ID Y<|Zm Y<|Ze (Ah (vs:=[_]) (cs:=[_]) DO FG I2 Y V rfl V rfl V)<|AF fun b4=>Ze (Ed (by_:=16) (sz:=1) (news:=[_]) DO (V:Tryz.prog.info? 9=some Tryz.t9) V rfl V rfl Y B Y Wo Wh B1 V HO B0 A0 A0) ?_;rintro _ _ ⟨gy,I,rfl⟩;obtain ⟨d9,cO,rfl⟩:=I.form;refine Zh 1 S3 V rfl Hc Y<|Xe (Zs Hc Y Y V (hc:=by exact (V:_=(#[.slice _ (BO rs t c).length cr,_]:AN))) (hi:=by(simp;done)))<|Z0<|Zn [6,7,18,19,20] ?_;refine AA<|Zx<|Dg Y Y Y<|DG (e:=[(20,_)]) (h:=by exact ⟨i+1,_,_,rfl,⟨by omega,BZ I rfl (by rw [AA9 hx])⟩,rfl,rfl⟩)
 have ei:i=(BO rs t c).length:=by omega
 subst ei;rw [HE]at B;refine BA<|Zt<|Zt<|AX<|C6<|Zo Wh (A9 (cs:=#[_,_]) isAgg186 k8 Y B5 B1)<|Xe (BJ k8 Y Y (by(simp [Value.oneCell',Value.cells];done)) Wu (by exact (rfl:_=(#[.slice qr (BO rs t c).length cr,.slice qe _ ce]:AN))) G4 B0 (by exact BB _))<|A4<|AL<|D7 rfl results152 Y Wh (Av isAgg186 k8 Wn (rfl)) (by exact ⟨.slice qr _ cr,.slice qe _ ce,W,J,rfl,⟨G,B⟩,rfl⟩)
theorem bA(v:A2)(p:Int)(rs:List AV)(s:List A8)(hv:RG v p rs s)(J:BM rs)(hn:rs.length<=2000)(I:∀r∈rs,r.ok)(t:Int)(c:Nat)(hc:c<=3):
 BS prog 152 #[v,I4 t,I4 (c:Int)] [s] (fun r H'=>∃G B m g,r= .agg #[G,B]/\z8 (BO rs t c) G B m g/\H'=[m++g,s]):=by
 refine Gj (UE v p rs s hv J hn I t c hc) V ?_;rintro r H' ⟨G,B,m,g,rfl,h,rfl⟩;exact ⟨_,⟨G,B,m,g,V,h,V⟩,by simp⟩
def tcs:List (Nat×Nat):=(List.range 4).flatMap fun t=>(List.range 4).map fun c=>(t,c)
theorem tk:∀t,t<4->∀c,c<4->tcs[4*t+c]?=some (t,c):=by decide
def uD(rs:List AV)(x:Nat×Nat):Bs:=R6 ((BO rs (x.1:Int) x.2).length:Int)++DN (Nl (BO rs (x.1:Int) x.2))
def Sz(rs:List AV):List Bs:=tcs.map (uD rs)
def Ll(rs:List AV):Bs:=DN (Sz rs)
def zx(rs:List AV)(x:Nat×Nat)(vs:AN)(sx:List A8):Prop:=∃vr ve sr se,vs=#[.agg #[vr,ve]]/\z8 (BO rs (x.1:Int) x.2) vr ve sr se/\sx=sr++se
theorem mR{l:List AV}(h:∀r∈l,r.ok):∀s∈Nl l,s.length<=45:=by
 intro s m;obtain ⟨r,g,rfl⟩:=CI.1 m;exact Ur (h r g)
theorem ZN(g:BM rs)(hn:rs.length<=2000)(x:Nat×Nat):(uD rs x).length<=41:=by
 have m:=Ih g (x.1:Int) x.2;have h2:=Kq ((BO rs (x.1:Int) x.2).length:Int) A0 A0
 unfold uD;rw [C0,GY];omega
theorem ay(q:BE):BS prog 82 #[.pointer q] [] (fun r H'=>∃b,r= .func (.func 151) #[] #[I5 b]/\H'=[[(b,.cells #[.pointer q] 33 (0,0))]]):=by
 refine Se func82 ntmps82 [0] ?_;intro u R;refine A3<|Ze (Bx #[_])<|AF fun b=>AH Y<|A3<|Zv (Be (vs:=[]) (us:=[_]) Y Y)<|An Y<|AO V results82 Y (by exact ⟨_,V,V⟩)
theorem az(v:A2)(p:Int)(rs:List AV)(s:List A8)(hv:RG v p rs s)(hs:BM rs)(hn:rs.length<=2000)(W:∀r∈rs,r.ok)(b:Nat):
 XZ prog 151 #[I5 b] [[(b,.cells #[v] 33 (0,0))]] [s] (zx rs) tcs:=by
 have af:=mL;intro l J hy s0 hJ;refine Se func151 ntmps151 [0,1] ?_;intro u R;refine AK Y<|A4<|AQ<|Zb [5,0,1] ?_;refine Aw (e0:=[(5,_)]) (fun m e H=>∃(t:Nat) (s2:List A8),m=4 -t/\(t<=4/\J (tcs.take (4*t)) s2)/\e=[(5,I4 (t:Int))]/\H=[s2]) (by exact ⟨0,s0,V,⟨by omega,hJ⟩,V,V⟩) Wp ?_;rintro _ _ _ ⟨t,s2,rfl,⟨ht,g⟩,rfl,rfl⟩;refine A3<|Zv (Ap (n:=4) Y Y)<|A4<|Zq<|Ak Y (fun I=>?_) (fun I=>?_);·
  refine B3<|Zq<|AQ<|AK Y<|AH Y<|AK Y<|A4<|AQ<|Zb [8,0,1,3,5] ?_;refine Aw (e0:=[(8,_)]) (fun m e H=>∃(c:Nat) (K:List A8),m=4 -c/\(c<=4/\J (tcs.take (4*t+c)) K)/\e=[(8,I4 (c:Int))]/\H=[K]) (by exact ⟨0,s2,V,⟨by omega,g⟩,V,V⟩) Wp ?_;rintro _ _ _ ⟨c,K,rfl,⟨hc,B⟩,rfl,rfl⟩;refine A3<|Zv (Ap (n:=4) Y Y)<|A4<|Zq<|Ak Y (fun G=>?_) (fun G=>?_);·
   have hx:=tk t I c G;refine B3<|Zq<|AQ<|AK Y<|AH Y<|AK Y<|Zl isAgg33 Y<|Zm Y<|Zm Y<|Zc [_,_,_] Y call152 Y V (bA v p rs s hv hs hn W (t:Int) c A0) ?_;rintro _ _ ⟨_,⟨vr,ve,sr,se,rfl,hO,rfl⟩,rfl⟩;have X:=hy _ _ _ K #[.agg #[vr,ve]] (sr++se) (M9 hx) B ⟨vr,ve,sr,se,rfl,hO,rfl⟩
   refine Ze (GH (vs:=[_]) Y Y (X) Wp) ?_;rintro _ _ ⟨_,⟨s4,rfl,rfl,U⟩,rfl⟩;refine Zv (Bo Y)<|A4<|AY Y (fun Z=>by cases Z)<|fun Z=>AC<|AA<|Zx<|Dg Y Y Y<|DG (e:=[(8,_)]) (h:=by exact ⟨c+1,s4,rfl,⟨by omega,by rw [<-lR,Bl hx];exact U⟩,rfl,rfl⟩)
  refine BA<|Zt<|Zt<|AX<|AA<|Zx<|Dg Y Y Y<|DG (e:=[(5,_)]) (h:=by exact ⟨t+1,K,rfl,⟨by omega,by rw [Nat.mul_add,O2];have O:c=4:=A0;subst O;exact B⟩,rfl,rfl⟩)
 have O:t=4:=by omega
 subst O;refine BA<|Zt<|Zt<|AX<|DC V results151 (by exact ⟨s2,V,g⟩)
theorem QU(v:A2)(p:Int)(rs:List AV)(s:List A8)(hv:RG v p rs s)(hs:BM rs)(hn:rs.length<=2000)(O:∀r∈rs,r.ok)(W:AM)(zg:Nat×Nat):
 BS prog 31 #[v] [[(0,.cells (Dn.map CW).toArray W zg)],s] (fun r H'=>∃so,BU 1 9 r 16 ((Sz rs).map EZ) so/\H'=[so,[(0,.cells (Dn.map CW).toArray W zg)],s]):=by
 have j3:=mL;obtain ⟨l8,l5,gQ,gq,kv,rfl,d9⟩:=id hv;refine DF func31 V ntmps31 V ?_;intro u R;refine Zb [0] ?_;refine A3<|AH Y<|A3<|Ze (Al dv #[_])<|AF fun ob=>A4<|B8 Y<|Zc [_] Y call82 Y V (ay _) ?_;rintro _ _ ⟨_,⟨bb,rfl,rfl⟩,rfl⟩;refine A4<|AQ<|Zb [3,8] ?_;refine Bc<|Yv (H0:=_) (R:=_) (I:=(fun pre H=>∃Z s2,H=[[(ob,.cells #[Z] 50 (0,0))],s2,[(0,.cells (Dn.map CW).toArray W zg)]]/\BU 1 9 Z pre.length ((pre.map (uD rs)).map EZ) s2)) (E:=fun x vs sx e Hn=>∃X J G,vs=#[.agg #[J,G]]/\e=[(4,I5 X),(9,.agg #[J,G])]/\Hn=[[(X,.cells #[J,G] 186 (0,0))]]) rfl Y call151 (az _ p rs s hv hs hn O bb) (fun x vs sx h=>by obtain ⟨J,G,sr,se,rfl,_⟩:=h;rfl) rfl Wp (⟨_,[],rfl,Bh 1 _⟩) ?ha_2 ?hbd_2 ?hk_2
 case ha_2=>
  intro _ x vs sx _ _ g;obtain ⟨J,G,sr,se,rfl,K,rfl⟩:=g;refine Zg<|Ze (Al mC #[_,_])<|AF fun X=>Xe (BJ k8 Y Y (by obtain ⟨q1,c1,rfl⟩:=K.1.form;obtain ⟨q2,c2,rfl⟩:=K.2.form;simp [Value.oneCell',Value.cells]) Wu (by exact (rfl:_=(#[J,G]:AN))) G4 B0 (by exact BB _)) ?_;refine Z0<|LP (e:=[(4,_),(9,_)]) (Hn:=[[(_,_)]]) ?_;exact ⟨_,_,_,V,V,V⟩
 case hbd_2=>
  intro l pre x ek u vs sx e9 gm H1 R1 cO hI g af;obtain ⟨J,G,sr,se,rfl,K,rfl⟩:=g;obtain ⟨X,o9,o8,U,rfl,rfl⟩:=af;simp at U;obtain ⟨rfl,rfl⟩:=U;obtain ⟨Z,s2,rfl,m⟩:=hI;obtain ⟨qe,ce,rfl⟩:=K.2.form;obtain ⟨q2,c2,rfl⟩:=m.form;have cu:=congrArg List.length cO
  rw [C0,F2,show tcs.length=16 from rfl]at cu;have j5:=Ih hs (x.1:Int) x.2
  have bn:Di (sr++se) (.slice qe (BO rs (x.1:Int) x.2).length ce) (Nl (BO rs (x.1:Int) x.2)):=(Gr (BZ K.2 (Hl _).symm rfl) (by rw [Hl];omega)).mono (fun c h=>HK _ h);refine AQ<|A3<|Zh 1 S3 V rfl Hc Y<|Zl ID Y ?_;refine Zv (AR DO Y)<|Xr [_] Y call83 Y V (MX _ A0 A0) ?_;refine Zm Y<|Zd Y V<|Zd Y V<|Za Y<|AH Y<|Ay (n:=9) (0::0::0::4::12::30::62::127::255::[]) 464 AD AD V<|Bm 0 V ID Y ?_;refine A1 1 V (AP Y)<|A1 2 V (AB (off:=1) S3 V rfl Hc Y)<|Bm 3 V ID Y ?_;refine Yz 4 12 31 [3,0] [false,true] [(0,(_,_))] rfl Y rfl rfl rfl rfl (Zu [_] Y call30 Y rfl (JL bn (by rw [Hl];omega) (fun s h=>by have:=mR (fun r hr=>O r (Qh hr)) s h;omega) W zg))<|F0<|C3<|A1 5 rfl (JO Y Y (by rw [D5,D5,GY];have:=Kq ((BO rs (x.1:Int) x.2).length:Int) A0 A0;omega))<|Yz 6 62 127 [0] [true] [(0,(_,_))] rfl Y rfl rfl rfl rfl (Ah (vs:=[_]) (cs:=[_]) DO FG I2 Y rfl rfl rfl rfl rfl)<|AF fun b3=>C3<|Yw 7 255 V (Ed (by_:=16) (sz:=1) (news:=[_]) DO (V:Tryz.prog.info? 9=some Tryz.t9) V rfl V rfl Y m Y Wo Wh B1 V HO B0 A0 A0) ?_;rintro _ _ ⟨l9,B,rfl⟩;obtain ⟨ic,gy,rfl⟩:=B.form;refine Yw 8 511 V (Zs Hc Y Y V (hi:=by(simp;done)))<|F0<|Aq<|Zn [] ?_;refine AA<|FZ V (by exact ⟨_,_,V,BZ B B7 (by simp [uD,EZ,LA])⟩)
 intro D1 H2 ax;obtain ⟨Z,s2,rfl,m⟩:=ax;refine Zn [3] ?_;refine AA<|C6<|Zl ID Y ?_;refine An Y<|G7 V (TZ results31 Y) Wo (by exact ⟨s2,m,V⟩)
def Cg(pd:AV->Bool)(l:List AV):Nat:=(l.takeWhile (fun x=>!pd x)).length
theorem Hg(g:AV->Bool)(l:List AV):Cg g l<=l.length:=(List.takeWhile_sublist _).length_le
theorem Um{g:AV->Bool}:∀{l:List AV} {i:Nat} {x:AV},l[i]?=some x->g x=true->(∀(j:Nat) (y:AV),j<i->l[j]?=some y->g y=false)->Cg g l=i
 |[],i,x,hx,_,_=>by simp at hx
 |z::l,0,x,hx,hp,_=>by
  simp only [cU,cE]at hx;subst hx;simp [Cg,hp]
 |z::l,i+1,x,hx,hp,hno=>by
  simp only [dp]at hx;have h0:=hno 0 z A0 rfl
  have m:=Um (l:=l) hx hp (fun j y B hy=>hno (j+1) y A0 hy);unfold Cg at m⊢;rw [S7,Ax (by simp [h0]),F2,m]
theorem Oe{m:AV->Bool}:∀{l:List AV},(∀(j:Nat) (y:AV),l[j]?=some y->m y=false)->Cg m l=l.length
 |[],_=>rfl
 |z::l,hno=>by
  have h0:=hno 0 z rfl;have g:=Oe (l:=l) (fun j y hy=>hno (j+1) y hy)
  unfold Cg at g⊢;rw [S7,Ax (by simp [h0]),F2,g,F2]
def Rz(n len:Nat):Int:=if n<len then(n:Int)else-1
def geV(c:Nat)(lo:Int)(r:AV):Bool:=decide (lo<=Dq r c)
def gtV(c:Nat)(hi:Int)(r:AV):Bool:=decide (hi<Dq r c)
theorem yX(v lo:Int)(bl:Nat):Au prog 173 #[I4 v,I5 bl] [[(bl,.cells #[I4 lo] 3 (0,0))]] (.bool (decide (lo<=v))):=by
 refine Se func173 ntmps173 [0,1] ?_;intro u R;refine A3<|AH Y<|AK Y<|Zl AE Y<|Zv (Ga Y Y)<|An Y<|AO V results173 Y (by exact ⟨V,V⟩)
theorem zR(r:AV)(c:Nat)(hc:c<=3)(lo:Int)(m g bl:Nat):Au prog 171 #[.agg r.BM4,I5 m,I5 g] [[(m,.cells #[.func (.func 173) #[] #[I5 bl]] 101 (0,0))],[(g,.cells #[I4 (c:Int)] 3 (0,0))],[(bl,.cells #[I4 lo] 3 (0,0))]] (.bool (geV c lo r)):=by
 refine Se func171 ntmps171 [0,1,2] ?_;intro u R;refine A3<|Ze (Bx #[_,_,_,_,_])<|AF fun B=>CT Y<|Ay (n:=6) (0::0::0::6::15::31::[]) 24 AD AD V<|Bm 0 V isAgg101 Y ?_;refine G3 1 V Wh (Pa #[_,_,_,_,_] DM B6 Y) ?_;refine Bm 2 V AE Y ?_;refine Yz 3 6 15 [2,1,0] [false,false,true] [(0,(_,_))] V Y V rfl V rfl (Zu [_,_] Y Up Y V (PX r c hc))<|F0<|C3<|Yw 4 31 V (Zu [_] Y call173 Y V (yX (Dq r c) lo bl))<|F0<|A1 5 V (BC Y)<|Aq<|Zx<|AL<|AO V results171 Y (by exact ⟨V,V⟩)
variable{L:List AV}
theorem zY(hv:Dp M v L)(hn:L.length<=1000000)(c:Nat)(hc:c<=3)(lo:Int)(K J bl:Nat):Au prog 170 #[v,.func (.func 171) #[] #[I5 K,I5 J]] [[(K,.cells #[.func (.func 173) #[] #[I5 bl]] 101 (0,0))],[(J,.cells #[I4 (c:Int)] 3 (0,0))],[(bl,.cells #[I4 lo] 3 (0,0))],M] (I4 (Rz (Cg (geV c lo) L) L.length)):=by
 have af:=mL;obtain ⟨p,cap,rfl,hl,Z⟩:=hv;refine Se func170 ntmps170 [0,1] ?_;intro u R;refine A3<|AH Y<|B8 Y<|Zv (AR C2 Y)<|Zm Y<|A4<|AQ<|Zb [8,0,1,7] ?_;refine Aw (e0:=[(8,_)]) (fun m e H=>∃(i:Nat),m=L.length -i/\(i<=L.length/\∀(j:Nat) (y:AV),j<i->L[j]?=some y->geV c lo y=false)/\e=[(8,I4 (i:Int))]/\H=[]) (by exact ⟨0,V,⟨CM _,by intro j y hj;omega⟩,V,V⟩) Wp ?_;rintro _ _ _ ⟨i,rfl,⟨hi,G⟩,rfl,rfl⟩;refine A3<|Zv (Ap Y Y)<|A4<|Zq<|Ak Y (fun B=>?_) (fun B=>?_);·
  obtain ⟨x,hx⟩:∃x,L[i]?=some x:=⟨_,BT B⟩;obtain ⟨g,off,cur,T,zz,rfl,U,X,I⟩:=Z i x hx;refine B3<|Zq<|AQ<|AK Y<|AH Y<|AK Y<|Zm Y<|Zm Y<|BX (AZ C2 B6 Y Y A0)<|Bu (cs:=[(g,.cells cur T zz)]) (by simp [U]) (A9 (cs:=x.BM4) DM B6 Y A0 I) V rfl<|Xr [_] Y call171 Y V (zR x c hc lo K J bl)<|A4<|AY Y (fun W=>?_) (fun W=>?_);·
   refine AK Y<|An Y<|Ag<|Zt<|Zt<|Ag<|Zt<|AO rfl jj Y (by exact ⟨by rw [Um hx W G];unfold Rz;rw [Ax B],rfl⟩)
  refine AC<|AA<|Zx<|Dg Y Y Y<|HJ (by exact ⟨i+1,rfl,⟨by omega,fun j y hj hy=>by rcases Fi j i with h9|h9;exact G j y h9 hy;obtain rfl:j=i:=A0;rw [hx]at hy;injection hy with hy;rw [<-hy];exact W⟩,rfl,rfl⟩)
 have O:Cg (geV c lo) L=L.length:=Oe (fun j y hy=>G j y (by have:=(C7.1 hy).1;omega) hy);refine BA<|Zt<|Zt<|AX<|C6<|An Y<|AO rfl jj Y (by exact ⟨by rw [O];unfold Rz;rw [As A0],rfl⟩)
theorem ya{J W:A2}(hv:Dp M J L)(hn:L.length<=1000000)(c:Nat)(hc:c<=3)(lo:Int)(I m bl:Nat):Au prog 169 #[.func (.func 173) #[] #[I5 bl],I5 I,I5 m] [[(I,.cells #[J,W] 186 (0,0))],[(m,.cells #[I4 (c:Int)] 3 (0,0))],[(bl,.cells #[I4 lo] 3 (0,0))],M] (I4 ((Cg (geV c lo) L:Nat):Int)):=by
 have U:=mL;obtain ⟨p,cap,rfl,Z,X⟩:=id hv;have O:=Hg (geV c lo) L
 refine Se func169 ntmps169 [0,1,2] ?_;intro u R;refine A3<|Ze (Bx #[_])<|AF fun K=>AH Y<|A3<|Zh 0 S3 V rfl E3 Y<|Zl GP Y<|Zv (Be (vs:=[]) (us:=[_,_]) Y Y)<|Xr [_,_] Y call170 Y V (zY hv hn c hc lo K m bl)<|AH Y<|B8 Y<|Zv (Dy Y Y)<|A4<|Ak Y (fun g=>?_) (fun g=>?_);·
  have B:Cg (geV c lo) L=L.length:=by
   rcases Fi (Cg (geV c lo) L) L.length with h9|h9
   · unfold Rz at g;rw [Ax h9]at g;omega
   · omega
  refine A3<|Zh 0 S3 V rfl E3 Y<|Zl GP Y<|Zv (AR C2 Y)<|B2 Y<|Zn [4] ?_;refine Zx<|AL<|Zt<|AO rfl results169 Y (by exact ⟨by rw [B],rfl⟩)
 have G:Cg (geV c lo) L<L.length:=by
  rcases Fi (Cg (geV c lo) L) L.length with h9|h9
  · exact h9
  · unfold Rz at g;rw [As A0]at g;omega
 refine B3<|AK Y<|An Y<|AO rfl results169 Y (by exact ⟨by unfold Rz;rw [Ax G],rfl⟩)
theorem yW(v lo:Int)(bl:Nat):Au prog 174 #[I4 v,I5 bl] [[(bl,.cells #[I4 lo] 3 (0,0))]] (.bool (decide (lo<v))):=by
 refine Se func174 ntmps174 [0,1] ?_;intro u R;refine A3<|AH Y<|AK Y<|Zl AE Y<|Zv (F4 Y Y)<|An Y<|AO V results174 Y (by exact ⟨V,V⟩)
theorem zQ(r:AV)(c:Nat)(hc:c<=3)(lo:Int)(m g bl:Nat):Au prog 171 #[.agg r.BM4,I5 m,I5 g] [[(m,.cells #[.func (.func 174) #[] #[I5 bl]] 101 (0,0))],[(g,.cells #[I4 (c:Int)] 3 (0,0))],[(bl,.cells #[I4 lo] 3 (0,0))]] (.bool (gtV c lo r)):=by
 refine Se func171 ntmps171 [0,1,2] ?_;intro u R;refine A3<|Ze (Bx #[_,_,_,_,_])<|AF fun B=>CT Y<|Ay (n:=6) (0::0::0::6::15::31::[]) 24 AD AD V<|Bm 0 V isAgg101 Y ?_;refine G3 1 V Wh (Pa #[_,_,_,_,_] DM B6 Y) ?_;refine Bm 2 V AE Y ?_;refine Yz 3 6 15 [2,1,0] [false,false,true] [(0,(_,_))] V Y V rfl V rfl (Zu [_,_] Y Up Y V (PX r c hc))<|F0<|C3<|Yw 4 31 V (Zu [_] Y call174 Y V (yW (Dq r c) lo bl))<|F0<|A1 5 V (BC Y)<|Aq<|Zx<|AL<|AO V results171 Y (by exact ⟨V,V⟩)
theorem zX(hv:Dp M v L)(hn:L.length<=1000000)(c:Nat)(hc:c<=3)(lo:Int)(K J bl:Nat):Au prog 170 #[v,.func (.func 171) #[] #[I5 K,I5 J]] [[(K,.cells #[.func (.func 174) #[] #[I5 bl]] 101 (0,0))],[(J,.cells #[I4 (c:Int)] 3 (0,0))],[(bl,.cells #[I4 lo] 3 (0,0))],M] (I4 (Rz (Cg (gtV c lo) L) L.length)):=by
 have af:=mL;obtain ⟨p,cap,rfl,hl,Z⟩:=hv;refine Se func170 ntmps170 [0,1] ?_;intro u R;refine A3<|AH Y<|B8 Y<|Zv (AR C2 Y)<|Zm Y<|A4<|AQ<|Zb [8,0,1,7] ?_;refine Aw (e0:=[(8,_)]) (fun m e H=>∃(i:Nat),m=L.length -i/\(i<=L.length/\∀(j:Nat) (y:AV),j<i->L[j]?=some y->gtV c lo y=false)/\e=[(8,I4 (i:Int))]/\H=[]) (by exact ⟨0,V,⟨CM _,by intro j y hj;omega⟩,V,V⟩) Wp ?_;rintro _ _ _ ⟨i,rfl,⟨hi,G⟩,rfl,rfl⟩;refine A3<|Zv (Ap Y Y)<|A4<|Zq<|Ak Y (fun B=>?_) (fun B=>?_);·
  obtain ⟨x,hx⟩:∃x,L[i]?=some x:=⟨_,BT B⟩;obtain ⟨g,off,cur,T,zz,rfl,U,X,I⟩:=Z i x hx;refine B3<|Zq<|AQ<|AK Y<|AH Y<|AK Y<|Zm Y<|Zm Y<|BX (AZ C2 B6 Y Y A0)<|Bu (cs:=[(g,.cells cur T zz)]) (by simp [U]) (A9 (cs:=x.BM4) DM B6 Y A0 I) V rfl<|Xr [_] Y call171 Y V (zQ x c hc lo K J bl)<|A4<|AY Y (fun W=>?_) (fun W=>?_);·
   refine AK Y<|An Y<|Ag<|Zt<|Zt<|Ag<|Zt<|AO rfl jj Y (by exact ⟨by rw [Um hx W G];unfold Rz;rw [Ax B],rfl⟩)
  refine AC<|AA<|Zx<|Dg Y Y Y<|HJ (by exact ⟨i+1,rfl,⟨by omega,fun j y hj hy=>by rcases Fi j i with h9|h9;exact G j y h9 hy;obtain rfl:j=i:=A0;rw [hx]at hy;injection hy with hy;rw [<-hy];exact W⟩,rfl,rfl⟩)
 have O:Cg (gtV c lo) L=L.length:=Oe (fun j y hy=>G j y (by have:=(C7.1 hy).1;omega) hy);refine BA<|Zt<|Zt<|AX<|C6<|An Y<|AO rfl jj Y (by exact ⟨by rw [O];unfold Rz;rw [As A0],rfl⟩)
theorem yZ{J W:A2}(hv:Dp M J L)(hn:L.length<=1000000)(c:Nat)(hc:c<=3)(lo:Int)(I m bl:Nat):Au prog 169 #[.func (.func 174) #[] #[I5 bl],I5 I,I5 m] [[(I,.cells #[J,W] 186 (0,0))],[(m,.cells #[I4 (c:Int)] 3 (0,0))],[(bl,.cells #[I4 lo] 3 (0,0))],M] (I4 ((Cg (gtV c lo) L:Nat):Int)):=by
 have U:=mL;obtain ⟨p,cap,rfl,Z,X⟩:=id hv;have O:=Hg (gtV c lo) L
 refine Se func169 ntmps169 [0,1,2] ?_;intro u R;refine A3<|Ze (Bx #[_])<|AF fun K=>AH Y<|A3<|Zh 0 S3 V rfl E3 Y<|Zl GP Y<|Zv (Be (vs:=[]) (us:=[_,_]) Y Y)<|Xr [_,_] Y call170 Y V (zX hv hn c hc lo K m bl)<|AH Y<|B8 Y<|Zv (Dy Y Y)<|A4<|Ak Y (fun g=>?_) (fun g=>?_);·
  have B:Cg (gtV c lo) L=L.length:=by
   rcases Fi (Cg (gtV c lo) L) L.length with h9|h9
   · unfold Rz at g;rw [Ax h9]at g;omega
   · omega
  refine A3<|Zh 0 S3 V rfl E3 Y<|Zl GP Y<|Zv (AR C2 Y)<|B2 Y<|Zn [4] ?_;refine Zx<|AL<|Zt<|AO rfl results169 Y (by exact ⟨by rw [B],rfl⟩)
 have G:Cg (gtV c lo) L<L.length:=by
  rcases Fi (Cg (gtV c lo) L) L.length with h9|h9
  · exact h9
  · unfold Rz at g;rw [As A0]at g;omega
 refine B3<|AK Y<|An Y<|AO rfl results169 Y (by exact ⟨by unfold Rz;rw [Ax G],rfl⟩)
theorem Ri(t c:Int):Au prog 168 #[I4 t,I4 c] [] (.bool (decide ((0<=t/\t<4)/\0<=c/\c<4))):=by
 refine Se func168 ntmps168 [0,1] ?_;intro u R;refine A3<|AH Y<|AK Y<|Zv (Ga Y Y)<|Zm Y<|Af (t:=7) Y V (fun g=>?_) (fun g=>?_);focus
  refine Zf Y Y<|Yg (Dy Y Y)<|C1 Y Y<|Zm Y<|Af (t:=11) Y V (fun h2=>?_) (fun h2=>?_);focus
   refine Zf Y Y<|Yg (Ga Y Y)<|C1 Y Y<|Zm Y<|Af (t:=15) Y V (fun m=>?_) (fun m=>?_);refine Zf Y Y<|Yg (Dy Y Y)<|C1 Y Y<|B2 Y<|Zn [4] ?_;refine Zx<|AL<|AO V results168 Y (by exact ⟨by exact congrArg Value.bool (decide_eq_decide.2 A0),V⟩)
  rotate_left
  focus
   refine AG<|B9 Y Y<|Zm Y ?_
 rotate_left 2
 focus
  refine AG<|B9 Y Y<|Zm Y<|AG<|B9 Y Y<|Zm Y ?_
 all_goals
  refine AG<|B9 Y Y<|B2 Y<|Zn [4] ?_;refine Zx<|AL<|AO V results168 Y (by exact ⟨by exact congrArg Value.bool (DQ A0).symm,V⟩)
structure RP where
 tb:Int
 cl:Int
 lo:Int
 hi:Int
 ct:Int
 fi:Int
 rows:List AV
 paths:List (List Bs)
 roots:List Bs
deriving DecidableEq
def Ca(L:List AV)(c:Nat)(lo:Int):Nat:=Cg (geV c lo) L -1
def toT(L:List AV)(c:Nat)(hi:Int):Nat:=min (Cg (gtV c hi) L+1) L.length
def Iu(L:List AV)(f k:Nat):List (List Bs):=(List.range k).map fun j=>Ea (Nl L) (f+j)
def Eh(rs:List AV)(t c:Nat)(lo hi:Int):RP:=
 ⟨t,c,lo,hi,(BO rs (t:Int) c).length,(Ca (BO rs (t:Int) c) c lo:Nat),((BO rs (t:Int) c).drop (Ca (BO rs (t:Int) c) c lo)).take (toT (BO rs (t:Int) c) c hi -Ca (BO rs (t:Int) c) c lo),
   Iu (BO rs (t:Int) c) (Ca (BO rs (t:Int) c) c lo) (toT (BO rs (t:Int) c) c hi -Ca (BO rs (t:Int) c) c lo),Sz rs⟩
def Lg(M:List A8)(pvs:List A2)(ps:List (List Bs)):Prop:=pvs.length=ps.length/\∀(i:Nat) (v:A2) (l:List Bs),pvs[i]?=some v->ps[i]?=some l->Di M v l
theorem Wi(M:List A8):Lg M [] []:=⟨rfl,by intro i v l h;simp at h⟩
theorem Lg.snoc{B:List A8}{g:List A2}{ps:List (List Bs)}(h:Lg M g ps){l:List Bs}(hv:Di B v l)(I:∀c∈M,c∈B):Lg B (g++[v]) (ps++[l]):=by
 obtain ⟨G,h2⟩:=h;refine ⟨by rw [C0,C0,G];rfl,?_⟩;intro i w k hi m;rcases Fi i g.length with h9|h9
 · rw [dj h9]at hi
   rw [dj A0]at m;exact (h2 i w k hi m).mono I
 · rw [TO h9]at hi
   rw [TO A0]at m;rw [G]at hi;cases h:i -ps.length with
   |zero=>rw [h]at hi m;simp at hi m;rw [<-hi,<-m];exact hv
   |succ n=>rw [h]at hi;simp at hi
theorem ae(L:List AV)(f k:Nat):Iu L f (k+1)=Iu L f k++[Ea (Nl L) (f+k)]:=by unfold Iu;rw [i7,CN];rfl
theorem U0(L:List AV)(f k:Nat):(Iu L f k).length=k:=by unfold Iu;rw [Bk,cX]
theorem vL{e:AM}{xs:List A2}{s:List A8}(h:BU 1 e v n xs s):n<=maxLen:=by
 obtain ⟨_,⟨_,h0,_⟩|⟨_,_,_,_,_,_,g,h2,_⟩⟩:=h;· omega
 · omega
theorem KP(rs:List AV):(Sz rs).length=16:=by unfold Sz;rw [Bk];rfl
set_option maxHeartbeats 4000000 in
theorem iD(v:A2)(p:Int)(rs:List AV)(s:List A8)(hv:RG v p rs s)(hs:BM rs)(hn:rs.length<=2000)(ax:∀r∈rs,r.ok)(t c:Nat)(ht:t<=3)(hc:c<=3)(lo hi:Int)(qo:lo<=hi)(Tg:AM)(zg:Nat×Nat):
 BS prog 98 #[v,I4 (t:Int),I4 (c:Int),I4 lo,I4 hi] [[(0,.cells (Dn.map CW).toArray Tg zg)],s] (fun r H'=>∃vr vp vt K sp G X Z,r= .tuple #[.agg #[I4 (t:Int),I4 (c:Int),I4 lo,I4 hi,I4 (((BO rs (t:Int) c).length:Nat):Int),I4 (((Ca (BO rs (t:Int) c) c lo):Nat):Int),vr,vp,vt],I4 0]/\BU 5 83 vr (((BO rs (t:Int) c).drop (Ca (BO rs (t:Int) c) c lo)).take ((toT (BO rs (t:Int) c) c hi) -(Ca (BO rs (t:Int) c) c lo))).length (Ae (((BO rs (t:Int) c).drop (Ca (BO rs (t:Int) c) c lo)).take ((toT (BO rs (t:Int) c) c hi) -(Ca (BO rs (t:Int) c) c lo)))) K/\BU 1 50 vp ((toT (BO rs (t:Int) c) c hi) -(Ca (BO rs (t:Int) c) c lo)) G sp/\Lg X G (Iu (BO rs (t:Int) c) (Ca (BO rs (t:Int) c) c lo) ((toT (BO rs (t:Int) c) c hi) -(Ca (BO rs (t:Int) c) c lo)))/\BU 1 9 vt 16 ((Sz rs).map EZ) Z/\H'=[K,sp,X,Z,[(0,.cells (Dn.map CW).toArray Tg zg)],s]):=by
 have qz:=mL;obtain ⟨sM,sJ,q9,pq,sw,rfl,p8⟩:=id hv;have qw:=Ih hs (t:Int) c
 have qh:=Hg (geV c lo) (BO rs (t:Int) c);have qj:=Hg (gtV c hi) (BO rs (t:Int) c)
 have ql:(Ca (BO rs (t:Int) c) c lo)=Cg (geV c lo) (BO rs (t:Int) c) -1:=rfl;have sj:(toT (BO rs (t:Int) c) c hi)=min (Cg (gtV c hi) (BO rs (t:Int) c)+1) (BO rs (t:Int) c).length:=rfl
 refine Se func98 ntmps98 [0,1,2,3,4] ?_;intro u R;refine A3<|Ze (Bx #[_])<|AF fun bc=>Ze (Bx #[_])<|AF fun bl=>Ze (Bx #[_])<|AF fun bh=>Ze (Al bm #[_,_,_,_,_,_,_,_,_])<|AF fun qb=>CT Y<|AQ<|AK Y<|Zv (Bb mB Y Y)<|AH Y<|AY Y (fun h1=>by cases h1)<|fun h1=>AK Y<|Zl AE Y ?_;refine Xr [_,_] Y call168 Y V (Ri (t:Int) (c:Int)) ?_;rw [DE (show((0<=(t:Int)/\(t:Int)<4)/\0<=(c:Int)/\(c:Int)<4) by omega)];refine Zv (Bo Y)<|Zm Y<|Ad (t:=29) Y V (fun h2=>by cases h2)<|fun h2=>Yl AE Y ?_;refine Yl AE Y ?_;refine Yg (F4 Y Y)<|B9 Y Y<|B2 Y<|Zn [0,1,7,8,9,10,24] ?_;refine Zx<|Ak Y (fun h3=>by omega)<|fun h3=>AC<|AA<|Zx<|AK Y<|Zm Y<|Zl AE Y ?_;refine Zc [_,_,_] Y call152 Y V (UE _ p rs s hv hs hn ax (t:Int) c hc) ?_;rintro _ _ ⟨_,⟨vr,ve,sr,se,rfl,hO,rfl⟩,rfl⟩;obtain ⟨qr,cr,rfl⟩:=hO.1.form;obtain ⟨qe,ce,rfl⟩:=hO.2.form;have cu:=Dl hO.1 A0
 have kv:Di se (.slice qe (BO rs (t:Int) c).length ce) (Nl (BO rs (t:Int) c)):=Gr (BZ hO.2 (Hl _).symm rfl) (by rw [Hl];omega);obtain ⟨p9,o9,e9,r9,hg⟩:=id cu;injection e9 with e91 e92 e93
 subst e91 e93;refine Ze (Al mC #[_,_])<|AF fun ob=>Xe (Xw k8 #[.slice qr (BO rs (t:Int) c).length cr,.slice qe (BO rs (t:Int) c).length ce]) ?_;refine A4<|A3<|Zv (Be (vs:=[]) (us:=[_,_]) Y Y)<|AH Y<|AK Y<|Zv (Be (vs:=[]) (us:=[_]) Y Y)<|Xr [_] Y call169 Y V (ya cu A0 c hc lo ob bc bl) ?_
 (refine BX (GZ Y Y (IntWalk.i64_in _ ?_)) ?_;(focus (omega)))
 refine Zv (iZ Y Y)<|B2 Y<|Zn [0,1,7,8,9,10,12,13,14] ?_;refine Zx<|Zq<|Ay (n:=9) (0::0::3::7::0::16::48::127::255::[]) 4 AD AD V<|A1 0 V (AP Y)<|A1 1 V (Be (vs:=[]) (us:=[_]) Y Y)<|A1 4 V (AB (off:=0) S3 V rfl E3 Y)<|Bm 5 V GP Y ?_;refine A1 6 V (AR C2 Y)<|Zz (l:=[2])<|BW [true] [(5,(_,_))] V rfl (Zu [_] Y call169 Y V (yZ cu A0 c hc hi ob bc bh)) ?_ (fun _ _ h=>h.elim) Aj;rintro _ _ ⟨rfl,rfl⟩;refine C3<|A1 3 V (EP (n:=1) Y Y A0)<|A1 7 V (Qr Y Y)<|A1 8 V (BC Y)<|Aq<|Zx<|Zb [0,1,7,8,9,10,12,14,15] ?_;refine CP (e0:=[(0,_),(1,_),(7,_),(8,_),(9,_)]) (H0:=[]) (fun e H=>∃(pb:Nat) (qt:BE) (ct:Nat) (Z:List A8),(BU 1 9 (.slice qt 16 ct) 16 ((Sz rs).map EZ) Z)/\e=[(16,I5 pb)]/\H=[[(pb,.cells #[I4 (t:Int),I4 (c:Int),I4 lo,I4 hi,I4 (((BO rs (t:Int) c).length:Nat):Int),I4 (((Ca (BO rs (t:Int) c) c lo):Nat):Int),.slice none 0 0,.slice none 0 0,.slice qt 16 ct] 145 (0,0))],Z]) Wp ?hx_2 ?hy_2
 case hx_2=>
  refine Ay (n:=13) (0::0::0::0::0::16::48::0::0::256::1023::0::4095::[]) 6656 AD AD V<|A1 0 V (AP Y)<|Bm 1 V AE Y ?_;refine Bm 2 V AE Y ?_;refine Bm 3 V AE Y ?_;refine A1 4 V (AB (off:=0) S3 V rfl E3 Y)<|Bm 5 V GP Y ?_;refine A1 6 V (AR C2 Y)<|A1 7 V (AP Y)<|A1 8 V (AP Y)<|Zz (l:=[9,11])<|BW [true,true,true,true] [(5,(_,_)),(3,(_,_)),(2,(_,_)),(1,(_,_))] V rfl (Zw [_] Y call31 Y V (QU _ p rs s hv hs hn ax Tg zg)) ?hk_3 Bv ?hl_3
  case' hk_3=>
   rintro _ _ ⟨_,⟨Z,O,rfl⟩,rfl⟩;refine ⟨Zk (Zk (Zk (Zk (Ab)))),?_⟩;obtain ⟨qt,ct,rfl⟩:=O.form;refine A1 10 V (BN (vs:=[(0,I4 (t:Int)),(1,I4 (c:Int)),(2,I4 lo),(3,I4 hi),(4,I4 (((BO rs (t:Int) c).length:Nat):Int)),(5,I4 (((Ca (BO rs (t:Int) c) c lo):Nat):Int)),(8,.slice qt 16 ct)]) (cs:=#[I4 (t:Int),I4 (c:Int),I4 lo,I4 hi,I4 (((BO rs (t:Int) c).length:Nat):Int),I4 (((Ca (BO rs (t:Int) c) c lo):Nat):Int),.slice none 0 0,.slice none 0 0,.slice qt 16 ct]) Y (Aa (pl:=#[(0,1),(1,1),(2,1),(3,1),(4,1),(5,1),(6,1),(7,1),(8,1)]) bm DA (fun _=>by kernel_rfl) AD))<|Yz 11 0 4095 [5,3,2,1] [true,true,true,true] [(5,(_,_)),(3,(_,_)),(2,(_,_)),(1,(_,_))] V Y V rfl V rfl (Al bm #[_,_,_,_,_,_,_,_,_]) ?_;rintro _ _ ⟨pb,rfl,rfl⟩;refine ⟨Zk (Zk (Zk (Zk (Ab)))),?_⟩
  case' hl_3=>
   refine BW [true,true,true,true] [(5,(_,_)),(3,(_,_)),(2,(_,_)),(1,(_,_))] V rfl (Al bm #[_,_,_,_,_,_,_,_,_]) ?hk_7 (fun _ _ h=>h.elim) ?hl_7
   case' hk_7=>
    rintro _ _ ⟨pb,rfl,rfl⟩;refine C3<|Zz (l:=[9])<|BW [true,true,true,true] [(5,(_,_)),(3,(_,_)),(2,(_,_)),(1,(_,_))] V rfl (Zw [_] Y call31 Y V (QU _ p rs s hv hs hn ax Tg zg)) ?hk_8 Bv ?hl_8
    case' hk_8=>
     rintro _ _ ⟨_,⟨Z,O,rfl⟩,rfl⟩;refine ⟨Zk (Zk (Zk (Zk (Ab)))),?_⟩;obtain ⟨qt,ct,rfl⟩:=O.form;refine A1 10 V (BN (vs:=[(0,I4 (t:Int)),(1,I4 (c:Int)),(2,I4 lo),(3,I4 hi),(4,I4 (((BO rs (t:Int) c).length:Nat):Int)),(5,I4 (((Ca (BO rs (t:Int) c) c lo):Nat):Int)),(8,.slice qt 16 ct)]) (cs:=#[I4 (t:Int),I4 (c:Int),I4 lo,I4 hi,I4 (((BO rs (t:Int) c).length:Nat):Int),I4 (((Ca (BO rs (t:Int) c) c lo):Nat):Int),.slice none 0 0,.slice none 0 0,.slice qt 16 ct]) Y (Aa (pl:=#[(0,1),(1,1),(2,1),(3,1),(4,1),(5,1),(6,1),(7,1),(8,1)]) bm DA (fun _=>by kernel_rfl) AD)) ?_
    case' hl_8=>
     exact Aj
   case' hl_7=>
    exact Aj
  all_goals
   refine Yw 12 8191 V (Xw Hj #[I4 (t:Int),I4 (c:Int),I4 lo,I4 hi,I4 (((BO rs (t:Int) c).length:Nat):Int),I4 (((Ca (BO rs (t:Int) c) c lo):Nat):Int),.slice none 0 0,.slice none 0 0,.slice qt 16 ct])<|F0<|Aq<|Hh (by exact ⟨pb,qt,ct,Z,O,V,V⟩)
 rintro _ _ ⟨pb,qt,ct,Z,O,rfl,rfl⟩;refine B8 Y<|AH Y<|AQ<|Bc<|Bc<|Bc<|Zb [17,10,12,15,16] ?_;refine Aw (e0:=[(17,_)]) (fun m e H=>∃(k:Nat) (d9:A2) (K:List A8) (vp:A2) (sp:List A8) (G:List A2) (X:List A8),m=(toT (BO rs (t:Int) c) c hi) -(Ca (BO rs (t:Int) c) c lo) -k/\(k<=(toT (BO rs (t:Int) c) c hi) -(Ca (BO rs (t:Int) c) c lo)/\BU 5 83 d9 k (Ae (((BO rs (t:Int) c).drop (Ca (BO rs (t:Int) c) c lo)).take k)) K/\BU 1 50 vp k G sp/\Lg X G (Iu (BO rs (t:Int) c) (Ca (BO rs (t:Int) c) c lo) k))/\e=[(17,I4 (((Ca (BO rs (t:Int) c) c lo)+k:Nat):Int))]/\H=[[(pb,.cells #[I4 (t:Int),I4 (c:Int),I4 lo,I4 hi,I4 (((BO rs (t:Int) c).length:Nat):Int),I4 (((Ca (BO rs (t:Int) c) c lo):Nat):Int),d9,vp,.slice qt 16 ct] 145 (0,0))],K,sp,X]) (by exact ⟨0,.slice none 0 0,[],.slice none 0 0,[],[],[],rfl,⟨CM _,by rw [JT];exact Bh 5 _,Bh 1 _,Wi _⟩,rfl,rfl⟩) Wp ?_;rintro _ _ _ ⟨k,d9,K,vp,sp,G,X,rfl,⟨hk,W,U,hP⟩,rfl,rfl⟩;obtain ⟨q2,c2,rfl⟩:=W.form;obtain ⟨q3,c3,rfl⟩:=U.form;refine B8 Y<|Zm Y<|Zv (Ap Y Y)<|A4<|Ak Y (fun l5=>?_) (fun l5=>?_);·
  obtain ⟨x,hx⟩:∃x,(BO rs (t:Int) c)[(Ca (BO rs (t:Int) c) c lo)+k]?=some x:=⟨_,BT A0⟩;obtain ⟨g,off,cur,T,zz,rfl,l8,pg,gQ⟩:=hg _ x hx;have l9:((BO rs (t:Int) c).drop (Ca (BO rs (t:Int) c) c lo))[k]?=some x:=by rw [Pc];exact hx
  refine B3<|Zq<|AQ<|A3<|Zh 1 S3 V rfl Hc Y<|Zl ID Y ?_;refine Zm Y<|Zc [_,_] Y call175 Y rfl (iE kv (by rw [Hl];omega) (fun s h=>by have:=mR (fun r hr=>ax r (Qh hr)) s h;omega) ((Ca (BO rs (t:Int) c) c lo)+k) (by rw [Hl];omega) Tg zg) ?_;rintro _ _ ⟨_,⟨o8,J,rfl,I,rfl⟩,rfl⟩;have cO:(Ea (Nl (BO rs (t:Int) c)) ((Ca (BO rs (t:Int) c) c lo)+k)).length<=maxLen:=vL I
  have j5:=Gr I cO;have j3:=ae (BO rs (t:Int) c) (Ca (BO rs (t:Int) c) c lo) k▸hP.snoc (j5.mono (fun c h=>G1 X h)) (fun c h=>HK J h)
  obtain ⟨qx,cx,rfl⟩:=I.form;refine Zm Y<|Zd Y V<|Zd Y V<|Za Y<|AH Y<|Cc (s1:=J) (s2:=X) Wo Wo ?_;refine Ay (n:=18) (0::1::0::4::0::28::60::124::255::0::512::0::2048::8191::2047::32767::65535::131071::[]) 176512 AD AD V<|A1 0 V (AB (off:=6) DA V rfl E3 Y)<|Bm 1 V GP Y ?_;refine A1 2 V (AB (off:=0) S3 V rfl E3 Y)<|Bm 3 V GP Y ?_;refine A1 4 V (AP Y)<|A1 5 V (AZ C2 B6 Y Y A0)<|Cn (b:=g) (x:= .cells cur T zz) (D':=127) 6 V rfl V (by simp [l8]) (A9 (cs:=x.BM4) DM B6 Y A0 gQ) ?_;refine A1 9 V (AB (off:=7) DA V rfl T0 Y)<|Bm 10 V cy Y ?_;refine A1 11 V (AP Y)<|Zz (l:=[7,12])<|BW [true,false,false,true] [(10,(_,_)),(1,(_,_))] V rfl (Ah (vs:=[_]) (cs:=[_,_,_,_,_]) C2 B6 Ft Y V rfl V rfl V) ?hk_12 (fun _ _ h=>h.elim) ?hl_12
  case' hk_12=>
   rintro _ _ ⟨af,rfl,rfl⟩;refine C3<|Zz (l:=[8,12])<|BW [true,false] [(10,(_,_))] V rfl (BP (by_:=40) (sz:=5) C2 (V:Tryz.prog.info? 83=some Tryz.t83) V rfl V rfl Y (W) Y (Cu 5 af 1 1 83 (0,0) [I4 x.t,I4 x.k,I4 x.v.a,I4 x.v.b,I4 x.v.c] V) Wo Wo HO A0 A0) ?hk_13 (fun _ _ h=>h.elim) ?hl_13
   case' hk_13=>
    rintro _ _ ⟨ic,B,rfl⟩;refine ⟨Zk (Ab),?_⟩;obtain ⟨gq,gm,rfl⟩:=B.form;refine A1 14 V (AB (off:=6) DA V rfl E3 Y)<|Zz (l:=[12])<|BW [true] [(10,(_,_))] V rfl (Ah (vs:=[_]) (cs:=[_]) My Hc dv Y V rfl V rfl V) ?hk_14 (fun _ _ h=>h.elim) ?hl_14
    case' hk_14=>
     rintro _ _ ⟨gy,rfl,rfl⟩;refine C3<|Yz 13 8191 32767 [10] [false] [] V Y V rfl V rfl (Ed (by_:=24) (sz:=1) (news:=[_]) My (V:Tryz.prog.info? 50=some Tryz.t50) V rfl V rfl Y U Y Wo Wh B1 V kc B0 A0 A0) ?_
    case' hl_14=>
     exact Aj
   case' hl_13=>
    refine BW [true,true] [(10,(_,_)),(1,(_,_))] V rfl (Ah (vs:=[_]) (cs:=[_]) My Hc dv Y V rfl V rfl V) ?hk_19 (fun _ _ h=>h.elim) ?hl_19
    case' hk_19=>
     rintro _ _ ⟨gy,rfl,rfl⟩;refine C3<|Yz 8 255 8191 [10,1] [true,false] [(10,(_,_))] V Y V rfl V rfl (BP (by_:=40) (sz:=5) C2 (V:Tryz.prog.info? 83=some Tryz.t83) V rfl V rfl Y (W) Y (Cu 5 af 1 1 83 (0,0) [I4 x.t,I4 x.k,I4 x.v.a,I4 x.v.b,I4 x.v.c] V) Wo Wo HO A0 A0) ?_;rintro _ _ ⟨ic,B,rfl⟩;refine ⟨Zk (Ab),?_⟩;obtain ⟨gq,gm,rfl⟩:=B.form;refine A1 14 V (AB (off:=6) DA V rfl E3 Y)<|Zz (l:=[13])<|BW [false] [] V rfl (Ed (by_:=24) (sz:=1) (news:=[_]) My (V:Tryz.prog.info? 50=some Tryz.t50) V rfl V rfl Y U Y Wo Wh B1 V kc B0 A0 A0) ?hk_21 (fun _ _ h=>h.elim) ?hl_21
     case' hl_21=>
      exact Aj
    case' hl_19=>
     exact Aj
  case' hl_12=>
   refine BW [true,true,true,true] [(10,(_,_)),(6,(_,_)),(3,(_,_)),(1,(_,_))] V rfl (Ah (vs:=[_]) (cs:=[_]) My Hc dv Y V rfl V rfl V) ?hk_25 (fun _ _ h=>h.elim) ?hl_25
   case' hk_25=>
    rintro _ _ ⟨gy,rfl,rfl⟩;refine ⟨Zk (FP (by simp [*]) (Zk (Zk (Ab)))),?_⟩;refine Yz 7 124 7935 [10,6,3,1] [true,false,false,true] [(10,(_,_)),(1,(_,_))] V Y V rfl V rfl (Ah (vs:=[_]) (cs:=[_,_,_,_,_]) C2 B6 Ft Y V rfl V rfl V)<|AF fun af=>C3<|Yz 8 255 8191 [10,1] [true,false] [(10,(_,_))] V Y V rfl V rfl (BP (by_:=40) (sz:=5) C2 (V:Tryz.prog.info? 83=some Tryz.t83) V rfl V rfl Y (W) Y (Cu 5 af 1 1 83 (0,0) [I4 x.t,I4 x.k,I4 x.v.a,I4 x.v.b,I4 x.v.c] V) Wo Wo HO A0 A0) ?_;rintro _ _ ⟨ic,B,rfl⟩;refine ⟨Zk (Ab),?_⟩;obtain ⟨gq,gm,rfl⟩:=B.form;refine A1 14 V (AB (off:=6) DA V rfl E3 Y)<|Zz (l:=[13])<|BW [false] [] V rfl (Ed (by_:=24) (sz:=1) (news:=[_]) My (V:Tryz.prog.info? 50=some Tryz.t50) V rfl V rfl Y U Y Wo Wh B1 V kc B0 A0 A0) ?hk_28 (fun _ _ h=>h.elim) ?hl_28
    case' hl_28=>
     exact Aj
   case' hl_25=>
    exact Aj
  all_goals
   rintro _ _ ⟨sO,bn,rfl⟩;refine ⟨Ab,?_⟩;obtain ⟨qa,pz,rfl⟩:=bn.form;refine Yw 15 65535 V (Zs E3 Y Y V (hc:=by exact (V:_=(#[I4 (t:Int),I4 (c:Int),I4 lo,I4 hi,I4 (((BO rs (t:Int) c).length:Nat):Int),I4 (((Ca (BO rs (t:Int) c) c lo):Nat):Int),_,_,.slice qt 16 ct]:AN))) (hi:=by(simp;done)))<|F0<|A1 16 V (AB (off:=7) DA V rfl T0 Y)<|Zz (l:=[17])<|BW [] [] V rfl (Zs T0 Y Y V (hc:=by exact (V:_=(#[I4 (t:Int),I4 (c:Int),I4 lo,I4 hi,I4 (((BO rs (t:Int) c).length:Nat):Int),I4 (((Ca (BO rs (t:Int) c) c lo):Nat):Int),_,_,.slice qt 16 ct]:AN))) (hi:=by(simp;done))) ?_ (fun _ _ h=>h.elim) Aj;rintro _ _ ⟨rfl,rfl⟩;refine C3<|Aq<|Zn [10,12,15,16,17] ?_;refine AA<|Zx<|Zg<|Zm Y<|Ya (n:=1) Y Y<|B2 Y<|DG (e:=[(17,_)]) (h:=by exact ⟨k+1,_,_,_,_,G++[_],J++X,rfl,⟨by omega,BZ B rfl (by rw [Bl l9,Bt];rfl),BZ bn rfl rfl,j3⟩,rfl,rfl⟩)
 have ek:k=(toT (BO rs (t:Int) c) c hi) -(Ca (BO rs (t:Int) c) c lo):=by omega
 subst ek;refine BA<|Zt<|Zt<|AX<|C6<|Zo Wh (A9 (cs:=#[I4 (t:Int),I4 (c:Int),I4 lo,I4 hi,I4 (((BO rs (t:Int) c).length:Nat):Int),I4 (((Ca (BO rs (t:Int) c) c lo):Nat):Int),.slice q2 _ c2,.slice q3 _ c3,.slice qt 16 ct]) RT Hj Y B5 B1) ?_;refine Xe (Xw Hj #[I4 (t:Int),I4 (c:Int),I4 lo,I4 hi,I4 (((BO rs (t:Int) c).length:Nat):Int),I4 (((Ca (BO rs (t:Int) c) c lo):Nat):Int),.slice q2 _ c2,.slice q3 _ c3,.slice qt 16 ct]) ?_;refine An Y<|CS rfl results98 Y Wh (Av RT Hj Wn (rfl)) Y (by exact ⟨_,_,_,K,sp,G,X,Z,rfl,BZ W (by rw [Cd,Cp];omega) rfl,U,hP,O,rfl⟩)
end Go.Proofs.YtlkdhannldcfbabGreatDoor
