/- digest.Verify. -/
import Derived.Test.YtlkdhannldcfbaaGreatDoorTr3
set_option linter.unusedVariables false
set_option linter.unusedSimpArgs false
namespace Go.Proofs.YtlkdhannldcfbaaGreatDoor
open Go.Proofs.Tryz
open Go Go.RowKit Gw
set_option maxRecDepth 100000
attribute [local irreducible] Gw.At Gw.Nx Gw.Ops
def PL(s:Bs):Bool:=!decide (s.length=32)
theorem lX{α:Type}(p:α->Bool)(ls:List α)(i:Nat)(x:α)(hx:ls[i]?=some x):(ls.take (i+1)).any p=((ls.take i).any p||p x):=by rw [C8 hx,List.any_append];simp
theorem vV{α:Type}(p:α->Bool)(ls:List α)(i:Nat)(x:α)(hx:ls[i]?=some x)(h:p x=true):ls.any p=true:=eM.2 ⟨x,Cd hx,h⟩
def J6(x:Bs×Bool)(o:Bs):Bs:=if x.2 then He x.1 o else He o x.1
variable{x:Bs}
theorem xK{f:Bool}{o:Bs}(h:f=true):J6 (x,f) o=He x o:=B0 h
theorem xL{f:Bool}{o:Bs}(h:f=false):J6 (x,f) o=He o x:=As (by simp [h])
def Qp(l:List (Bs×Bool)):List A4:=l.flatMap (fun x=>[Ci x.1,.bool x.2])
theorem S9(l:List (Bs×Bool))(x:Bs×Bool):Qp (l++[x])=Qp l++[Ci x.1,.bool x.2]:=by unfold Qp;rw [Ly];rfl
def Kg(s:Bs):Nat->Nat->List Bs->Option Bs
 |n,_,[]=>if n<=1 then some (Np s)else none
 |n,i,x::rp=>if n<=1 then none else if i<BV n then(Kg s (BV n) i rp).map (fun v=>He v x)else(Kg s (n -BV n) (i -BV n) rp).map (fun v=>He x v)
def RU(root:Bs)(n i:Nat)(s:Bs)(pf:List Bs):Bool:=!(pf.any PL)&&decide (Kg s n i pf.reverse=some root)
variable{s:Bs}{i n:Nat}
theorem tF(h:2<=n):Kg s n i []=none:=As A0
theorem fu(h:n<=1)(rp:List Bs):Kg s n i rp=if rp=[]then some (Np s)else none:=by
 cases rp with
 |nil=>exact B0 h
 |cons x rp=>exact B0 h
theorem Uo{rp:List Bs}(h:2<=n)(hi:i<BV n):Kg s n i (x::rp)=(Kg s (BV n) i rp).map (J6 (x,false)):=by
 show(if n<=1 then _ else _)=_;rw [As A0,B0 hi];rfl
theorem Rv{rp:List Bs}(h:2<=n)(hi:¬i<BV n):Kg s n i (x::rp)=(Kg s (n -BV n) (i -BV n) rp).map (J6 (x,true)):=by
 show(if n<=1 then _ else _)=_;rw [As A0,As hi];rfl
theorem Sa{l:List Bs}{k:Nat}(h:l[k]?=some x):(l.take (k+1)).reverse=x::(l.take k).reverse:=by rw [C8 h,SM];rfl
theorem Xp(w:List (Bs×Bool))(x:Bs×Bool)(o:Option Bs):(o.map (J6 x)).map (fun v=>w.foldr J6 v)=o.map (fun v=>(w++[x]).foldr J6 v):=by
 cases o with
 |none=>rfl
 |some v=>simp
def sH(M:List AU)(v:A4)(ls:List (Bs×Bool)):Prop:=∃p cap,v= .slice p ls.length cap/\(ls.length<=maxLen/\ls.length<=cap)/\∀(i:Nat) (x:Bs×Bool),ls[i]?=some x->∃g off cur T zz,p=some ⟨g,off,none⟩/\(g,Obj.cells cur T zz)∈M/\off+i*2+2<=cur.size/\cur.extract (off+i*2) (off+i*2+2)=#[Ci x.1,.bool x.2]
variable{v:A4}
theorem bN{e:AM}{ls:List (Bs×Bool)}{s:List AU}(h:BZ 2 e v ls.length (Qp ls) s)(hn:ls.length<=maxLen):sH s v ls:=by
 obtain ⟨b,cap,rfl⟩:=h.form;refine ⟨b,cap,V,⟨hn,Ex h⟩,fun i x hx=>?_⟩;obtain ⟨g,y,cur,z,hv,rfl,E,m⟩:=Ir h i (zt.1 hx).1;injection hv with hv1 hv2 hv3
 refine ⟨g,0,cur,e,z,hv1,by simp,by omega,?_⟩;unfold Qp at m;rw [Gq _ 2 (fun _=>rfl) ls i x hx]at m;rw [C6];exact MA.1 m
theorem kw(xs:List (Bs×Bool))(q:Bs):(bwd xs).foldl (fun o (x:Nat×(Bs×Bool))=>J6 x.2 o) q=xs.foldr J6 q:=by
 have h:(bwd xs).foldl (fun o (x:Nat×(Bs×Bool))=>J6 x.2 o) q=((bwd xs).map Prod.snd).foldl (fun o x=>J6 x o) q:=by rw [List.foldl_map]
 rw [h,XW,List.foldl_reverse]
theorem pR(s:Bs):(Np s).length=32:=Es _
theorem tX(a b:Bs):decide (str a=str b)=(!false&&decide (some a=some b)):=by
 have h:(str a=str b)↔a=b:=⟨fun h=>by rw [<-Io a,<-Io b,h],fun h=>by rw [h]⟩;simp [h]
theorem kN(x:Bs×Bool)(o:Bs):(J6 x o).length=32:=by unfold J6;split<;>exact Es _
theorem ku(xs:List (Nat×(Bs×Bool)))(q:Bs)(g:q.length=32):(xs.foldl (fun o (x:Nat×(Bs×Bool))=>J6 x.2 o) q).length=32:=by
 rcases cD xs with rfl|⟨ys,y,rfl⟩
 · exact g
 · rw [ew,RW];exact kN _ _
theorem pu(s:Bs):BC prog 172 #[.string (str s)] [] (.bool (decide (s.length=32))):=by
 refine Se func172 ntmps172 [0] ?_;intro u R;refine A1<|A3 Y<|A1<|Zm Y<|Zv (Ev HE Y)<|Zv (Bb (n:=32) Y Y)<|A3 Y<|AA<|AC rfl results172 Y (by exact ⟨by rw [BO],rfl⟩)
theorem og(s:Bs):BC prog 171 #[.string (str s)] [] (.bool (PL s)):=by
 refine Se func171 ntmps171 [0] ?_;intro u R;refine A1<|A3 Y<|A1<|Zm Y<|Xr [_] Y call172 Y rfl (pu s)<|Zv (C9 Y)<|A3 Y<|AA<|AC rfl results171 Y (by exact ⟨by unfold PL;rw [decide_not],rfl⟩)
variable{M:List AU}{ls:List Bs}
theorem dh(hv:DK M v ls)(hn:ls.length<=1000000000):Bz prog 192 #[v,.func (.func 171) #[] #[]] [M] (fun r H'=>∃k:Int,r=I4 k/\decide (0<=k)=ls.any PL/\H'=[M]):=by
 have W:=mL;obtain ⟨p,cap,rfl,X,O⟩:=hv;refine Se func192 ntmps192 [0,1] ?_;intro u R;refine A1<|A3 Y<|Zq<|A1<|Zm Y<|Zv (AP Bk Y)<|Zm Y<|AD<|AX<|Zb [8,0,1,7] ?_;refine BB (e0:=[(8,_)]) (fun m e H=>∃(i:Nat),m=ls.length -i/\(i<=ls.length/\(ls.take i).any PL=false)/\e=[(8,I4 (i:Int))]/\H=[]) (by exact ⟨0,V,⟨C2 _,V⟩,V,V⟩) Wp ?_;rintro _ _ _ ⟨i,rfl,⟨U,y⟩,rfl,rfl⟩;refine A1<|Zv (Au Y Y)<|AD<|Zq<|Ak Y (fun I=>?_) (fun I=>?_);·
  obtain ⟨x,hx⟩:∃x,ls[i]?=some x:=⟨_,zn I⟩;obtain ⟨g,off,cur,T,zz,rfl,J,G⟩:=O i x hx;refine AB<|Zx<|Zq<|AX<|A1<|Zm Y<|A3 Y<|A1<|Zm Y<|Zm Y<|Zm Y<|Ap (BP Bk CH Y Y A0)<|Ca (cs:=[(g,.cells cur T zz)]) (by simp [J]) (Bj Fm Y G) V rfl<|Xr [_] Y call171 Y V (og x)<|AD<|Ad Y (fun E=>?_) (fun E=>?_);·
   refine A1<|Zm Y<|A3 Y<|AA<|Ab<|Zt<|Zt<|Ab<|Zt<|AC rfl results192 Y (by exact ⟨(i:Int),rfl,by rw [vV _ ls i x hx E];exact CA A0,rfl⟩)
  refine AB<|A8<|Zx<|Zg<|Ya (n:=1) Y Y<|Zm Y<|Z0<|Zn [8,0,1,7] ?_;refine AZ (e':=[(8,_)]) (by exact ⟨i+1,rfl,⟨by omega,by rw [lX _ ls i x hx,y];exact E⟩,rfl,rfl⟩)
 have K:i=ls.length:=by omega
 subst K;rw [G0]at y;refine Aw<|Zt<|Zt<|AQ<|Zx<|A1<|A3 Y<|AA<|AC rfl results192 Y (by exact ⟨-1,rfl,by rw [y];rfl,rfl⟩)
theorem UU(hv:DK M v ls)(hn:ls.length<=1000000000):BC prog 173 #[v,.func (.func 171) #[] #[]] [M] (.bool (ls.any PL)):=by
 refine Se func173 ntmps173 [0,1] ?_;intro u R;refine A1<|A3 Y<|A1<|Zm Y<|Zm Y<|Zc [_,_] Y call192 Y V (dh hv hn) ?_;rintro _ _ ⟨_,⟨k,rfl,g,rfl⟩,rfl⟩;refine Zv (I1 Y Y)<|A3 Y<|AA<|AC rfl results173 Y (by exact ⟨by rw [<-g],rfl⟩)
theorem rq(hv:DK M v ls)(hn:ls.length<=1000000000):BC prog 139 #[v] [M] (.bool (!(ls.any PL))):=by
 refine Se func139 ntmps139 [0] ?_;intro u R;refine A1<|A3 Y<|A1<|A3 Y<|A1<|Zm Y<|Zm Y<|Xr [_,_] Y call173 Y V (UU hv hn)<|Zv (Cj Y)<|A3 Y<|AA<|AC V results139 Y (by exact ⟨V,V⟩)
theorem j6(p:B7)(cap:Nat):BC prog 140 #[.slice p 0 cap] [] (.tuple #[.string (str []),.slice none 0 0,.bool false]):=by
 refine Se func140 ntmps140 [0] ?_;intro u R;refine A1<|Za Y<|Za Y<|A3 Y<|Zq<|A1<|Zm Y<|Zv (AP Bk Y)<|Zv (Bb (n:=0) Y Y)<|AD<|Ak Y (fun g=>?_) (fun g=>?_);·
  refine A1<|Za Y<|Za Y<|A3 Y<|AA<|Zt<|gZ V results140 Y Y Y (by exact ⟨V,V⟩)
 exfalso;omega
theorem j5{p:B7}{cap:Nat}(hv:DK M (.slice p ls.length cap) ls)(k:Nat)(x:Bs)(J:ls.length=k+1)(hx:ls[k]?=some x):BC prog 140 #[.slice p ls.length cap] [M] (.tuple #[.string (str x),.slice p k cap,.bool true]):=by
 have O:=mL;obtain ⟨U,E,e,K,I⟩:=hv;injection e with e1 e2 e3
 subst e1 e3;rw [J]at K⊢;obtain ⟨g,off,cur,T,zz,rfl,y,m⟩:=I k x hx;refine Se func140 ntmps140 [0] ?_;intro u R;refine A1<|Za Y<|Za Y<|A3 Y<|Zq<|A1<|Zm Y<|Zv (AP Bk Y)<|Zv (Bb (n:=0) Y Y)<|AD<|Ak Y (fun G=>by omega)<|fun G=>AB<|Zx<|A1<|Zm Y<|Zv (AP Bk Y)<|Yb (n:=1) Y Y<|A3 Y<|Zq<|BJ (n:=10) (0::0::3::7::0::0::48::15::255::511::[]) 0 AG AG V<|A2 0 V (AJ Y)<|A2 1 V (AJ Y)<|A2 2 V (BP Bk CH Y Y A0)<|Gf (b:=g) (x:= .cells cur T zz) (D':=15) 3 V rfl V (by simp [y]) (Bj Fm Y m) ?_;refine A2 4 V (AJ Y)<|A2 5 V (AJ Y)<|A2 6 V (Bc Bk CH Y Y A0)<|A2 7 V (BF Y)<|A2 8 V (BF Y)<|A2 9 V (BF Y)<|Ao<|Zn [2,3,4] ?_;refine Zx<|AA<|gZ V results140 Y Y Y (by exact ⟨V,V⟩)
def wF(pf:List Bs)(k:Nat):Bs:=if k=0 then []else pf.getD (k -1) []
def yE(p:B7)(k cap:Nat):A4:=if k=0 then .slice none 0 0 else .slice p (k -1) cap
theorem mW{p:B7}{cap:Nat}{pf:List Bs}(hv:DK M (.slice p pf.length cap) pf)(k:Nat)(m:k<=pf.length):BC prog 140 #[.slice p k cap] [M] (.tuple #[.string (str (wF pf k)),yE p k cap,.bool (decide (0<k))]):=by
 rcases k with _|k
 · exact Mx (j6 p cap)
 · have hx:(pf.take (k+1))[k]?=some (pf.getD k []):=by
    rw [Gk,B0 A0,Lw,zn A0];rfl
   have g:(pf.take (k+1)).length=k+1:=by rw [zy];omega
   have h:=hv.take (k+1) m;have h2:=j5 (ls:=pf.take (k+1)) (p:=p) (cap:=cap) (by rw [g];exact h) k _ g hx
   rw [g]at h2;exact h2
theorem dX(x:Bs)(f:Bool)(o:Bs)(hx:x.length<=1000000000)(E:o.length<=1000000000)(g:AM)(y:Nat×Nat):BC prog 143 #[.agg #[.string (str x),.bool f],.string (str o)] [[(1,.cells (Di.map CB).toArray g y)]] (.string (str (J6 (x,f) o))):=by
 refine Se func143 ntmps143 [0,1] ?_;intro u R;refine A1<|Ze (Bx #[_,_])<|AF fun G=>A3 Y<|Zq<|A1<|Zh 1 hY V rfl Cl Y<|Zl DH Y<|AD<|Ad Y (fun m=>?_) (fun m=>?_);·
  refine A1<|Zh 0 hY rfl rfl CH Y<|Zl Fm Y<|Zm Y<|Xr [_,_] Y call134 Y rfl (NQ x o hx E g y)<|A3 Y<|AA<|Zt<|AC rfl results143 Y (by exact ⟨by rw [xK m],rfl⟩)
 refine AB<|Zx<|A1<|Zm Y<|Zh 0 hY rfl rfl CH Y<|Zl Fm Y<|Xr [_,_] Y call134 Y rfl (NQ o x E hx g y)<|A3 Y<|AA<|AC rfl results143 Y (by exact ⟨by rw [xL m],rfl⟩)
theorem Uc(p:B7)(n c:Nat):Bz prog 142 #[.slice p n c] [] (fun r H'=>∃b,r= .func (.func 175) #[] #[I5 b]/\H'=[[(b,.cells #[.slice p n c] 206 (0,0))]]):=by
 refine Se func142 ntmps142 [0] ?_;intro u R;refine A1<|Ze (Bx #[_])<|AF fun b=>A3 Y<|A1<|Zv (Bt (vs:=[]) (us:=[_]) Y Y)<|A3 Y<|AA<|AC V results142 Y (by exact ⟨_,V,V⟩)
theorem Ud{ls:List (Bs×Bool)}(hv:sH M v ls)(b:Nat)(hn:ls.length<=1000000000000):
 LY prog 175 #[I5 b] [[(b,.cells #[v] 206 (0,0))]] (fun s=>∀c∈M,c∈s) (fun x=>#[I4 ((x.1:Nat):Int),.agg #[Ci x.2.1,.bool x.2.2]]) (bwd ls):=by
 have ax:=mL;obtain ⟨p,cap,rfl,hl,hg⟩:=hv;intro l J hA hy s y;refine Se func175 ntmps175 [0,1] ?_;intro u R;refine A1<|Zl isAgg206 Y ?_;refine Zv (AP i1 Y)<|Ap (HV Y Y (IntWalk.i64_in _ A0))<|A3 Y<|AX<|Zb [3,0,1] ?_;refine BB (e0:=[(3,_)]) (fun m e H=>∃(k:Nat) (s:List AU),m=0+k/\(k<=ls.length/\J ((bwd ls).take (ls.length -k)) s)/\e=[(3,I4 ((k:Int) -1))]/\H=[[(b,.cells #[.slice p ls.length cap] 206 (0,0))],s]) (by exact ⟨ls.length,s,rfl,⟨B8 _,by rw [S1,Hj];exact y⟩,rfl,rfl⟩) Wp ?_;rintro _ _ _ ⟨k,s,rfl,⟨hk,y⟩,rfl,rfl⟩;refine Zq<|A1<|Zm Y<|Zv (I1 Y Y)<|AD<|Ak Y (fun W=>?_) (fun W=>?_);·
  obtain ⟨m,rfl⟩:∃m,k=m+1:=⟨k -1,by omega⟩;rw [show(((m+1:Nat):Int) -1)=((m:Nat):Int) by omega];obtain ⟨Z,K⟩:∃Z,ls[m]?=some Z:=⟨_,zn A0⟩;have E:=fD K
  obtain ⟨g,o,cur,T,zz,rfl,hm,G⟩:=hg m Z K
  (obtain ⟨af,I⟩:=G)
  have X:=hy _ _ _ s (Rz E) y;refine AB<|Zx<|Zq<|AX<|A1<|Zm Y<|Zm Y<|Zl isAgg206 Y ?_;refine Zm Y<|Ap (AO i1 sizeOf210 Y Y A0)<|Ca (cs:=[(g,.cells cur T zz)]) (by simp [hA _ s y _ hm]) (A9 (cs:=#[_,_]) isAgg210 sizeOf210 Y A0 I) V rfl ?_;refine Ze (Oa (vs:=[_,_]) Y Y (X) Wp) ?_;rintro _ _ ⟨_,⟨s',rfl,rfl,O⟩,rfl⟩;refine Zv (Cj Y)<|AD<|Ad Y (fun hb=>by cases hb)<|fun hb=>AB<|A8<|Zx<|Zg<|Zm Y<|Ap (HV Y Y (IntWalk.i64_in _ A0))<|AH Y<|Zn [3,0,1] ?_;refine AZ (e':=[(3,_)]) (by exact ⟨m,s',rfl,⟨by omega,by rw [show ls.length -m=ls.length -(m+1)+1 by omega,C8 E];exact O⟩,rfl,rfl⟩)
 have U:k=0:=by omega
 subst U;rw [PF,HK (by rw [XX];exact B8 _)]at y;refine Aw<|Zt<|Zt<|AQ<|GX V results175 (by exact ⟨s,V,y⟩)
theorem Xv{pf:List Bs}(hv:DK M v pf)(hn:pf.length<=1000000)(root s:Bs)(hs:s.length<=140737488354000)(n i:Nat)(hi:i<n)(hb:n<=1000000)(Tg:AM)(zg:Nat×Nat):
 BC prog 73 #[.string (str root),I4 (n:Int),I4 (i:Int),.string (str s),v] [[(1,.cells (Di.map CB).toArray Tg zg)],M] (.bool (RU root n i s pf)):=by
 have p9:=mL;obtain ⟨p,cap,rfl,hl,hg⟩:=id hv;refine GA func73 V ntmps73 V ?_;intro u R;refine Zb [0,1,2,3,4] ?_;refine A1<|A3 Y<|Zq<|A1<|Zm Y<|Zv (Au (n:=0) Y Y)<|Zm Y<|Ai (t:=21) Y V (fun h1=>by omega)<|fun h1=>Zf Y Y<|Zf Y Y<|Yg (Fw Y Y)<|Zv (AL Y Y)<|Zm Y<|Ai (t:=26) Y V (fun h2=>by omega)<|fun h2=>Zf Y Y<|Xr [_] Y call139 Y V (rq hv A0) ?_;refine Yg (Cj Y)<|Zv (AL Y Y)<|Z0<|Zn [0,1,2,3,4,30] ?_;refine Zx<|Ad Y (fun ha=>?_) (fun ha=>?_);·
  have K:pf.any PL=true:=by simpa using ha
  refine A1<|A3 Y<|AA<|Zt<|TJ rfl (YM results73 Y) (by exact ⟨by unfold RU;rw [K];rfl,rfl⟩)
 have K:pf.any PL=false:=by simpa using ha
 have cO:∀x∈pf,x.length=32:=fun x hx=>by have h:=ff.1 K x hx;simpa [PL]using h
 refine AB<|Zx<|A1<|A3 Y<|Zq<|AX<|Bl<|Zb [1,2,4,11,0,3] ?_;refine BB (e0:=[(1,_),(2,_),(4,_),(11,_)]) (fun m e H=>∃(J Z k:Nat) (g:List (Bs×Bool)) (vw:A4) (sw:List AU),m=0+J/\(k<=pf.length/\Z<J/\J<=n/\Kg s n i pf.reverse=(Kg s J Z (pf.take k).reverse).map (fun v=>g.foldr J6 v)/\BZ 2 210 vw g.length (Qp g) sw/\g.length+k=pf.length/\(∀x∈g,x.1.length=32))/\e=[(1,I4 (J:Int)),(2,I4 (Z:Int)),(4,.slice p k cap),(11,vw)]/\H=[sw]) (by exact ⟨n,i,pf.length,[],.slice none 0 0,[],rfl,⟨B8 _,hi,B8 _,by rw [G0];simp,Ba 2 _,by simp,by simp⟩,rfl,rfl⟩) Wp ?_;rintro _ _ _ ⟨J,Z,k,g,vw,sw,rfl,⟨hk,mR,pg,G,bn,pq,W⟩,rfl,rfl⟩;obtain ⟨qw,cw,rfl⟩:=bn.form;refine Zq<|A1<|Zm Y<|Zv (CO (n:=1) Y Y)<|AD<|Ak Y (fun gy=>?_) (fun gy=>?_);·
  have h9:2<=J:=by omega
  have o8:=FK h9;have o9:=En J
  have p8:=ug h9;refine AB<|Zx<|AX<|A1<|Zm Y<|Xr [_] Y call140 Y V (mW hv k hk) ?_;refine Zm Y<|Zd Y V<|Zd Y V<|Zd Y V<|Za Y<|Za Y<|A3 Y<|Zq<|A1<|Zm Y<|Zv (C9 Y)<|Z0<|Zn [0,1,2,3,11,12,13,40] ?_;refine Zx<|Ak Y (fun ht=>?_) (fun ht=>?_);·
   have gm:k=0:=by omega
   subst gm;rw [Hj,List.reverse_nil,tF h9]at G;refine A1<|A3 Y<|AA<|Zt<|Ab<|Zt<|Ab<|Zt<|TJ rfl (YM results73 Y) (by exact ⟨by unfold RU;rw [G,K];rfl,rfl⟩)
  obtain ⟨k,rfl⟩:∃m,k=m+1:=⟨k -1,by omega⟩;obtain ⟨x9,U⟩:∃x,pf[k]?=some x:=⟨_,zn A0⟩;have gq:wF pf (k+1)=x9:=by show pf.getD k []=x9;rw [Lw,U];rfl
  have cu:=cO x9 (Cd U);have X:∀f:Bool,∀y∈g++[(x9,f)],y.1.length=32:=fun f y hy=>by rcases DM.1 hy with hy|hy;exact W y hy;rw [D0]at hy;rw [hy];exact cu
  rw [gq];refine AB<|Zx<|A1<|Zm Y<|A3 Y<|A1<|Zm Y<|Xr [_] Y call141 Y V (Vk J h9 A0) ?_;refine A3 Y<|A1<|Zm Y<|Zm Y<|Zm Y<|Zm Y<|Zv (Fw Y Y)<|Zv (BQ (vs:=[(0,_),(1,_)]) (cs:=#[_,_]) Y (Aa (pl:=#[(0,1),(1,1)]) zeroValue210 hY (fun _=>by kernel_rfl) V))<|Ze (Af (vs:=[_]) (cs:=[_,_]) i1 sizeOf210 zeroValue210 Y V rfl V rfl V)<|AF fun b1=>Ze (Db (by_:=24) (sz:=2) (news:=[_,_]) i1 (V:Tryz.prog.info? 210=some Tryz.t210) V rfl V rfl Y bn Y Wo Wh An V XS AK A0 A0) ?_;rintro _ _ ⟨pz,O,rfl⟩;obtain ⟨lv,l9,rfl⟩:=O.form;refine AH Y<|Zn [0,1,2,3,4,11,15] ?_;refine Zx<|A1<|Zm Y<|Zm Y<|Zv (Fw Y Y)<|AD<|Ak Y (fun ax=>?_) (fun ax=>?_);·
   have af:decide (BV J<=Z)=true:=CA ax;refine Zg<|Zm Y<|Zm Y<|Yb Y Y<|Zm Y<|Zm Y<|Yb Y Y<|Za Y<|AH Y<|A8<|Zn [1,2,4,11,0,3] ?_;refine AZ (e':=[(1,_),(2,_),(4,_),(11,_)]) (by exact ⟨J -BV J,Z -BV J,k,g++[(x9,true)],_,_,rfl,⟨by omega,by omega,by omega,by rw [G,Sa U,Rv h9 A0,Xp],BH O B3 (by rw [S9];exact congrArg (fun b=>Qp g++[Ci x9,.bool b]) af),by rw [zq];simp;omega,X true⟩,rfl,rfl⟩)
  have af:decide (BV J<=Z)=false:=Bm ax;refine Zg<|Zm Y<|AH Y<|A8<|Zn [1,2,4,11,0,3] ?_;refine AZ (e':=[(1,_),(2,_),(4,_),(11,_)]) (by exact ⟨BV J,Z,k,g++[(x9,false)],_,_,rfl,⟨by omega,by omega,by omega,by rw [G,Sa U,Uo h9 A0,Xp],BH O B3 (by rw [S9];exact congrArg (fun b=>Qp g++[Ci x9,.bool b]) af),by rw [zq];simp;omega,X false⟩,rfl,rfl⟩)
 refine Aw<|Zt<|Zt<|AQ<|Zx<|A1<|Zm Y<|Xr [_] Y call133 Y V (Vl s hs Tg zg) ?_;refine Ze (Al HR #[_])<|AF fun ob=>Xe (Zs CH Y Y V (hc:=by exact (V:_=(#[Ci (Np s)]:AN)))) ?_;refine AD<|Zq<|A1<|Zm Y<|Zc [_] Y call142 Y V (Uc _ _ _) ?_;rintro _ _ ⟨_,⟨bb,rfl,rfl⟩,rfl⟩;refine AD<|AX<|Zb [0,4,16,65] ?_;refine Xb (H0:=_) (R:=_) (I:=(fun pre H=>H=[[(ob,.cells #[Ci (pre.foldl (fun o (x:Nat×(Bs×Bool))=>J6 x.2 o) (Np s))] 9 (0,0))],sw,[(1,.cells (Di.map CB).toArray Tg zg)]])) (E:=fun x e Hn=>∃bx,e=[(18,I5 bx),(67,.agg #[Ci x.2.1,.bool x.2.2]),(66,I4 ((x.1:Nat):Int))]/\Hn=[[(bx,.cells #[Ci x.2.1,.bool x.2.2] 210 (0,0))]]) V Y call175 (Ud (ls:=g) (bN bn A0) bb A0) (fun pre H1 c d h=>by subst h;intro x hx;simp [hx]) Y V Wp (V) ?ha_7 ?hbd_7 ?hk_7
 case ha_7=>
  intro _ x _ _;refine Zg<|Ze (Al zeroValue210 #[_,_])<|AF fun bx=>Xe (BN sizeOf210 Y Y (by simp [Ci,Value.oneCell']) Wu (by exact (rfl:_=(#[Ci x.2.1,.bool x.2.2]:AN))) Ek Wn (by exact BU _)) ?_;refine Z0<|ol (e:=[(18,_),(67,_),(66,_)]) (Hn:=[[(_,_)]]) ?_;exact ⟨_,V,V⟩
 case hbd_7=>
  intro l pre x kz u e9 l8 H1 R1 kv hI d9;obtain ⟨bx,rfl,rfl⟩:=d9;subst hI;refine AX<|Zg<|Zo Wh (Pa #[_,_] isAgg210 sizeOf210 Y) ?_;refine Zl Fm Y ?_;refine Xr [_,_] Y call143 Y rfl (dX x.2.1 x.2.2 _ (by rw [W _ (iZ (QV kv))];omega) (by rw [ku _ _ (pR s)];omega) Tg zg) ?_;refine Xe (Zs CH Y Y V) ?_;refine Z0<|A8<|L8 rfl (by rw [RW])
 intro D1 H2 ek;subst ek;refine Zn [0,4,16] ?_;refine A8<|Zx<|A1<|Zm Y<|Zv (AP Bk Y)<|Zv (Bb (n:=0) Y Y)<|Zm Y<|Ai (t:=74) Y V (fun hz=>?_) (fun hz=>?_);·
  have bf:J<=1:=by omega
  subst hz;rw [fu bf,B0 B3]at G;refine Yl Fm Y ?_;refine Zf Y Y<|Yg (NN Y Y)<|Zv (AR Y Y)<|A3 Y<|AA<|LA rfl (YM results73 Y) Wo (by exact ⟨by unfold RU;rw [K,G,kw];exact congrArg Value.bool (tX _ _),rfl⟩)
 have bf:J<=1:=by omega
 rw [fu bf,As (by intro e;have e2:(pf.take k).reverse.length=0:=(by rw [e];rfl);rw [SO,zy]at e2;omega)]at G;refine A7 Y rfl<|A7 Y rfl<|A7 Y rfl<|Zv (AL Y Y)<|A3 Y<|AA<|LA rfl (YM results73 Y) Wo (by exact ⟨by unfold RU;rw [K,G];rfl,rfl⟩)
def Ep(r:AY):Bs:=CW [r.t,r.k]++CW [r.v.a,r.v.b,r.v.c]
variable{r:AY}
theorem Ou(h:r.ok):(∀n∈[r.t,r.k],-4611686018427387903<=n/\n<=4611686018427387903)/\(∀n∈[r.v.a,r.v.b,r.v.c],-4611686018427387903<=n/\n<=4611686018427387903):=by
 obtain ⟨⟨g,h2,m⟩,y,E⟩:=h;unfold inV at g h2 m;constructor
 · intro n hn
   simp only [E4,Mu,N3]at hn;rcases hn with rfl|rfl<;>omega
 · intro n hn
   simp only [E4,Mu,N3]at hn;rcases hn with rfl|rfl|rfl<;>omega
theorem M6(h:r.ok):(Ep r).length<=45:=by
 have g:=DT _ (Ou h).1;have h2:=DT _ (Ou h).2
 unfold Ep;rw [zq];simp only [D3,KK]at g h2;omega
theorem qD(a b:Int):Ic #[I4 a,I4 b] 0 [a,b]:=by
 intro i n h;rcases i with _|_|i
 · simp at h;subst h;rfl
 · simp at h;subst h;rfl
 · simp at h
theorem vB(r:AY):Ic r.Ao5 2 [r.v.a,r.v.b,r.v.c]:=by
 intro i n h;rcases i with _|_|_|i
 · simp at h;subst h;rfl
 · simp at h;subst h;rfl
 · simp at h;subst h;rfl
 · simp at h
theorem V5(r:AY)(y:r.ok):BC prog 72 #[.agg r.Ao5] [] (.tuple #[.string (str (Ep r)),I4 0]):=by
 have hn:=Ou y;have g:=DT _ hn.1
 have m:=DT _ hn.2;simp only [D3,KK]at g m;refine Se func72 ntmps72 [0] ?_;intro u R;refine A1<|Ze (Bx #[_,_,_,_,_])<|AF fun E=>Za Y<|A3 Y<|Zq<|A1<|Zo Wh (Pa #[_,_,_,_,_] C7 Ax Y)<|Xr [_] Y call132 Y V (SF r) ?_;rw [CA y];refine Zv (Cj Y)<|AD<|Ad Y (fun hv=>by cases hv)<|fun hv=>AB<|Zx<|Zq<|BJ (n:=12) (0::1::0::4::15::31::0::64::255::511::1023::2047::[]) 304 AG AG V<|A2 0 V (AV (off:=0) Ds V rfl A5 Y)<|B2 1 V AE Y<|A2 2 V (AV (off:=1) Ds V rfl A5 Y)<|B2 3 V AE Y<|A2 6 V (AV (off:=2) Ds V rfl CD Y)<|A2 7 V (Fg G1 A5 Y)<|Zz (l:=[4])<|BE [false,false] [] V rfl (Af (vs:=[_,_]) (cs:=[_,_]) Fi A5 HL Y V rfl V rfl V) ?_ (fun _ _ h=>h.elim) Ay;rintro _ _ ⟨gb,rfl,rfl⟩;refine BT<|Yw 5 255 V (Zu [_] Y call138 Y V (SI gb 0 2 _ _ _ [r.t,r.k] (qD r.t r.k) B3 hn.1))<|C3<|Yw 8 511 V (Zu [_] Y call138 Y V (SI E 2 3 _ _ _ [r.v.a,r.v.b,r.v.c] (vB r) B3 hn.2))<|C3<|A2 9 rfl (CY Y Y (by rw [BO,BO];omega))<|A2 10 rfl (BF Y)<|A2 11 rfl (BF Y)<|Ao<|Zn [2,3] ?_;refine Zx<|AA<|Dv rfl results72 Y Y (by exact ⟨by rw [CZ];rfl,rfl⟩)
def BI(rs:List AY)(t:Int)(c:Nat):List AY:=Cg rs t c (-1000000000) 1000000000
variable{rs:List AY}
theorem Fh(g:BL rs)(t:Int)(c:Nat):(BI rs t c).length<=rs.length:=by
 unfold BI;rw [(Ez rs t c _ _).length_eq];exact SJ _ _
theorem GV{t:Int}{c:Nat}{lo hi:Int}(h:r∈Cg rs t c lo hi):r∈rs:=(MD.1 ((Ez rs t c lo hi).mem_iff.1 h)).1
def Gu(l:List AY):List Bs:=l.map Ep
theorem EJ(l:List AY):(Gu l).length=l.length:=zu ..
theorem aI{l:List AY}{x:AY}(h:l[i]?=some x):(Gu (l.take (i+1))).map Ci=(Gu (l.take i)).map Ci++[.string (str (Ep x))]:=by
 rw [C8 h];unfold Gu;rw [Dg,Dg];rfl
def sI(l:List AY)(vr ve:A4)(sr se:List AU):Prop:=BZ 5 98 vr (l).length (Ac (l)) sr/\BZ 1 9 ve l.length ((Gu l).map Ci) se
theorem TD(v:A4)(p:Int)(rs:List AY)(s:List AU)(hv:Pk v p rs s)(hs:BL rs)(hn:rs.length<=2000)(X:∀r∈rs,r.ok)(t:Int)(c:Nat)(hc:c<=3):
 Bz prog 105 #[v,I4 t,I4 (c:Int)] [s] (fun r H'=>∃vr J sr I,r= .agg #[vr,J]/\sI (BI rs t c) vr J sr I/\H'=[sr,I,s]):=by
 have cO:=mL;have cu:=Fh hs t c
 refine Se func105 ntmps105 [0,1,2] ?_;intro u R;refine A1<|Ze (Al ee #[_,_])<|AF fun qb=>AD<|A1<|Zm Y<|Zm Y<|Zm Y<|Zc [_,_,_,_,_] Y call35 Y V (Y5 v p rs s hv t c (-1000000000) 1000000000 hc) ?_;rintro _ _ ⟨_,⟨sr,E,rfl⟩,rfl⟩;change BZ 5 98 _ (BI rs t c).length (Ac (BI rs t c)) sr at E;obtain ⟨qr,cr,rfl⟩:=E.form;have U:=D6 E A0
 obtain ⟨p9,af,e9,d9,hg⟩:=id U;injection e9 with e91 e92 e93
 subst e91 e93;refine Zv (BQ (vs:=[(0,_)]) (cs:=#[_,_]) Y (Aa (pl:=#[(0,1),(1,1)]) ee NX (fun _=>by kernel_rfl) V))<|Ze (Al ee #[_,_])<|AF fun ob=>Xe (BN de Y Y (by(simp [Value.oneCell',Value.cells];done)) Wu (by exact (rfl:_=(#[.slice qr (BI rs t c).length cr,.slice none 0 0]:AN))) Ek AK (by exact BU _))<|AD<|Zq<|A1<|Zh 0 NX rfl rfl C4 Y<|Zl DO Y<|Zv (AP B4 Y)<|Zm Y<|AD<|AX<|Bl<|Zb [20,6,7,18,19] ?_;refine BB (e0:=[(20,_)]) (fun m e H=>∃(i:Nat) (J:A4) (I:List AU),m=(BI rs t c).length -i/\(i<=(BI rs t c).length/\BZ 1 9 J i ((Gu ((BI rs t c).take i)).map Ci) I)/\e=[(20,I4 (i:Int))]/\H=[[(ob,.cells #[.slice qr (BI rs t c).length cr,J] 179 (0,0))],I]) (by exact ⟨0,.slice none 0 0,[],V,⟨C2 _,Ba 1 _⟩,V,V⟩) Wp ?_;rintro _ _ _ ⟨i,J,I,rfl,⟨hi,y⟩,rfl,rfl⟩;obtain ⟨qe,ce,rfl⟩:=y.form;refine A1<|Zv (Au Y Y)<|AD<|Zq<|Ak Y (fun O=>?_) (fun O=>?_);·
  obtain ⟨x,hx⟩:∃x,(BI rs t c)[i]?=some x:=⟨_,zn O⟩;obtain ⟨g,off,cur,T,zz,rfl,W,ax,K⟩:=hg i x hx;have Z:=X x (GV (Cd hx))
  refine AB<|Zx<|Zq<|AX<|A1<|Ap (AO B4 Ax Y Y A0)<|Ca (cs:=[(g,.cells cur T zz)]) (by simp [W]) (A9 (cs:=x.Ao5) C7 Ax Y A0 K) V rfl<|Ze (Al Dd #[_,_,_,_,_])<|AF fun xb=>Xe (Xw Ax x.Ao5)<|AD<|A1<|Zo Wh (Pa #[_,_,_,_,_] C7 Ax Y)<|Xr [_] Y call72 Y V (V5 x Z)<|Zm Y<|Zd Y V<|Zd Y V<|Za Y<|A3 Y<|Zg<|Zh 1 NX V rfl HM Y<|Zl I0 Y<|Zm Y<|Ze (Af (vs:=[_]) (cs:=[_]) Bk CH HR Y V rfl V rfl V)<|AF fun b4=>Ze (Db (by_:=16) (sz:=1) (news:=[_]) Bk (V:Tryz.prog.info? 9=some Tryz.t9) V rfl V rfl Y y Y Wo Wh An V GF AK A0 A0) ?_;rintro _ _ ⟨ek,G,rfl⟩;obtain ⟨bn,bf,rfl⟩:=G.form;refine Zh 1 NX V rfl HM Y<|Xe (Zs HM Y Y V (hc:=by exact (V:_=(#[.slice _ (BI rs t c).length cr,_]:AN))) (hi:=by(simp;done)))<|Z0<|Zn [6,7,18,19,20] ?_;refine A8<|Zx<|Zg<|Ya (n:=1) Y Y<|Zm Y<|Z0<|Zn [20,6,7,18,19] ?_;refine AZ (e':=[(20,_)]) (by exact ⟨i+1,_,_,rfl,⟨by omega,BH G rfl (by rw [aI hx])⟩,rfl,rfl⟩)
 have ei:i=(BI rs t c).length:=by omega
 subst ei;rw [G0]at y;refine Aw<|Zt<|Zt<|AQ<|Zx<|A1<|Zo Wh (A9 (cs:=#[_,_]) isAgg179 de Y B5 An)<|Xe (BN de Y Y (by(simp [Value.oneCell',Value.cells];done)) Wu (by exact (rfl:_=(#[.slice qr (BI rs t c).length cr,.slice qe _ ce]:AN))) Ek AK (by exact BU _))<|AD<|AA<|DI rfl results105 Y Wh (Ar isAgg179 de Wn (rfl)) (by exact ⟨.slice qr _ cr,.slice qe _ ce,sr,I,rfl,⟨E,y⟩,rfl⟩)
theorem Yu(v:A4)(p:Int)(rs:List AY)(s:List AU)(hv:Pk v p rs s)(G:BL rs)(hn:rs.length<=2000)(E:∀r∈rs,r.ok)(t:Int)(c:Nat)(hc:c<=3):
 Bz prog 105 #[v,I4 t,I4 (c:Int)] [s] (fun r H'=>∃y m sr g,r= .agg #[y,m]/\sI (BI rs t c) y m sr g/\H'=[sr++g,s]):=by
 refine Dw (TD v p rs s hv G hn E t c hc) V ?_;rintro r H' ⟨y,m,sr,g,rfl,h,rfl⟩;exact ⟨_,⟨y,m,sr,g,V,h,V⟩,by simp⟩
def tcs:List (Nat×Nat):=(List.range 4).flatMap fun t=>(List.range 4).map fun c=>(t,c)
theorem Ut:∀t,t<4->∀c,c<4->tcs[4*t+c]?=some (t,c):=by decide
def WZ(rs:List AY)(x:Nat×Nat):Bs:=JS ((BI rs (x.1:Int) x.2).length:Int)++Cs (Gu (BI rs (x.1:Int) x.2))
def Im(rs:List AY):List Bs:=tcs.map (WZ rs)
def E8(rs:List AY):Bs:=Cs (Im rs)
def zf(rs:List AY)(x:Nat×Nat)(vs:AN)(sx:List AU):Prop:=∃vr ve sr se,vs=#[.agg #[vr,ve]]/\sI (BI rs (x.1:Int) x.2) vr ve sr se/\sx=sr++se
theorem PX{l:List AY}(h:∀r∈l,r.ok):∀s∈Gu l,s.length<=45:=by
 intro s m;obtain ⟨r,g,rfl⟩:=GB.1 m;exact M6 (h r g)
theorem MS(g:BL rs)(hn:rs.length<=2000)(x:Nat×Nat):(WZ rs x).length<=41:=by
 have m:=Fh g (x.1:Int) x.2;have h2:=I8 ((BI rs (x.1:Int) x.2).length:Int) A0 A0
 unfold WZ;rw [zq,Dk];omega
theorem Yr(q:B7):Bz prog 159 #[.pointer q] [] (fun r H'=>∃b,r= .func (.func 184) #[] #[I5 b]/\H'=[[(b,.cells #[.pointer q] 49 (0,0))]]):=by
 refine Se func159 ntmps159 [0] ?_;intro u R;refine A1<|Ze (Bx #[_])<|AF fun b=>A3 Y<|A1<|Zv (Bt (vs:=[]) (us:=[_]) Y Y)<|A3 Y<|AA<|AC V results159 Y (by exact ⟨_,V,V⟩)
theorem Yt(v:A4)(p:Int)(rs:List AY)(s:List AU)(hv:Pk v p rs s)(hs:BL rs)(hn:rs.length<=2000)(U:∀r∈rs,r.ok)(b:Nat):
 WO prog 184 #[I5 b] [[(b,.cells #[v] 49 (0,0))]] [s] (zf rs) tcs:=by
 have af:=mL;intro l J hy s0 hJ;refine Se func184 ntmps184 [0,1] ?_;intro u R;refine A1<|Zm Y<|AD<|AX<|Zb [5,0,1] ?_;refine BB (e0:=[(5,_)]) (fun m e H=>∃(t:Nat) (s2:List AU),m=4 -t/\(t<=4/\J (tcs.take (4*t)) s2)/\e=[(5,I4 (t:Int))]/\H=[s2]) (by exact ⟨0,s0,V,⟨by omega,hJ⟩,V,V⟩) Wp ?_;rintro _ _ _ ⟨t,s2,rfl,⟨ht,g⟩,rfl,rfl⟩;refine A1<|Zv (Au (n:=4) Y Y)<|AD<|Zq<|Ak Y (fun G=>?_) (fun G=>?_);·
  refine AB<|Zx<|Zq<|AX<|A1<|Zm Y<|A3 Y<|A1<|Zm Y<|AD<|AX<|Zb [8,0,1,3,5] ?_;refine BB (e0:=[(8,_)]) (fun m e H=>∃(c:Nat) (I:List AU),m=4 -c/\(c<=4/\J (tcs.take (4*t+c)) I)/\e=[(8,I4 (c:Int))]/\H=[I]) (by exact ⟨0,s2,V,⟨by omega,g⟩,V,V⟩) Wp ?_;rintro _ _ _ ⟨c,I,rfl,⟨hc,y⟩,rfl,rfl⟩;refine A1<|Zv (Au (n:=4) Y Y)<|AD<|Zq<|Ak Y (fun E=>?_) (fun E=>?_);·
   have hx:=Ut t G c E;refine AB<|Zx<|Zq<|AX<|A1<|Zm Y<|A3 Y<|A1<|Zm Y<|Zl isAgg49 Y<|Zm Y<|Zm Y<|Zc [_,_,_] Y call105 Y V (Yu v p rs s hv hs hn U (t:Int) c A0) ?_;rintro _ _ ⟨_,⟨vr,ve,sr,Z,rfl,hO,rfl⟩,rfl⟩;have W:=hy _ _ _ I #[.agg #[vr,ve]] (sr++Z) (Rz hx) y ⟨vr,ve,sr,Z,rfl,hO,rfl⟩
   refine Ze (Oa (vs:=[_]) Y Y (W) Wp) ?_;rintro _ _ ⟨_,⟨s4,rfl,rfl,O⟩,rfl⟩;refine Zv (Cj Y)<|AD<|Ad Y (fun X=>by cases X)<|fun X=>AB<|A8<|Zx<|Zg<|Ya (n:=1) Y Y<|Zm Y<|Z0<|Zn [8,0,1,3,5] ?_;refine AZ (e':=[(8,_)]) (by exact ⟨c+1,s4,rfl,⟨by omega,by rw [<-SU,C8 hx];exact O⟩,rfl,rfl⟩)
  refine Aw<|Zt<|Zt<|AQ<|A8<|Zx<|Zg<|Ya (n:=1) Y Y<|Zm Y<|Z0<|Zn [5,0,1] ?_;refine AZ (e':=[(5,_)]) (by exact ⟨t+1,I,rfl,⟨by omega,by rw [Nat.mul_add,Iv];have K:c=4:=A0;subst K;exact y⟩,rfl,rfl⟩)
 have K:t=4:=by omega
 subst K;refine Aw<|Zt<|Zt<|AQ<|GX V results184 (by exact ⟨s2,V,g⟩)
theorem Uu(v:A4)(p:Int)(rs:List AY)(s:List AU)(hv:Pk v p rs s)(hs:BL rs)(hn:rs.length<=2000)(O:∀r∈rs,r.ok)(W:AM)(zg:Nat×Nat):
 Bz prog 111 #[v] [[(1,.cells (Di.map CB).toArray W zg)],s] (fun r H'=>∃so,BZ 1 9 r 16 ((Im rs).map Ci) so/\H'=[so,[(1,.cells (Di.map CB).toArray W zg)],s]):=by
 have kz:=mL;obtain ⟨mR,lv,gy,gm,l9,rfl,cO⟩:=id hv;refine GA func111 V ntmps111 V ?_;intro u R;refine Zb [0] ?_;refine A1<|A3 Y<|A1<|Ze (Al cY #[_])<|AF fun ob=>AD<|Zq<|A1<|Zm Y<|Zc [_] Y call159 Y V (Yr _) ?_;rintro _ _ ⟨_,⟨bb,rfl,rfl⟩,rfl⟩;refine AD<|AX<|Zb [3,8] ?_;refine Bl<|Xc (H0:=_) (R:=_) (I:=(fun pre H=>∃Z s2,H=[[(ob,.cells #[Z] 56 (0,0))],s2,[(1,.cells (Di.map CB).toArray W zg)]]/\BZ 1 9 Z pre.length ((pre.map (WZ rs)).map Ci) s2)) (E:=fun x vs sx e Hn=>∃X J G,vs=#[.agg #[J,G]]/\e=[(4,I5 X),(9,.agg #[J,G])]/\Hn=[[(X,.cells #[J,G] 179 (0,0))]]) rfl Y call184 (Yt _ p rs s hv hs hn O bb) (fun x vs sx h=>by obtain ⟨J,G,sr,se,rfl,_⟩:=h;rfl) rfl Wp (⟨_,[],rfl,Ba 1 _⟩) ?ha_2 ?hbd_2 ?hk_2
 case ha_2=>
  intro _ x vs sx _ _ g;obtain ⟨J,G,sr,se,rfl,K,rfl⟩:=g;refine Zg<|Ze (Al ee #[_,_])<|AF fun X=>Xe (BN de Y Y (by obtain ⟨q1,c1,rfl⟩:=K.1.form;obtain ⟨q2,c2,rfl⟩:=K.2.form;simp [Value.oneCell',Value.cells]) Wu (by exact (rfl:_=(#[J,G]:AN))) Ek AK (by exact BU _)) ?_;refine Z0<|ol (e:=[(4,_),(9,_)]) (Hn:=[[(_,_)]]) ?_;exact ⟨_,_,_,V,V,V⟩
 case hbd_2=>
  intro l pre x d9 u vs sx e9 ek H1 R1 cu hI g af;obtain ⟨J,G,sr,se,rfl,K,rfl⟩:=g;obtain ⟨X,p8,o9,U,rfl,rfl⟩:=af;simp at U;obtain ⟨rfl,rfl⟩:=U;obtain ⟨Z,s2,rfl,m⟩:=hI;obtain ⟨qe,ce,rfl⟩:=K.2.form;obtain ⟨q2,c2,rfl⟩:=m.form;have bn:=congrArg List.length cu
  rw [zq,D3,show tcs.length=16 from rfl]at bn;have l8:=Fh hs (x.1:Int) x.2
  have bf:DK (sr++se) (.slice qe (BI rs (x.1:Int) x.2).length ce) (Gu (BI rs (x.1:Int) x.2)):=(Eu (BH K.2 (EJ _).symm rfl) (by rw [EJ];omega)).mono (fun c h=>DA _ h);refine AX<|A1<|Zh 1 NX V rfl HM Y<|Zl I0 Y ?_;refine Zv (AP Bk Y)<|Xr [_] Y call71 Y V (Me _ A0 A0) ?_;refine Zm Y<|Zd Y V<|Zd Y V<|Za Y<|A3 Y<|BJ (n:=9) (0::0::0::4::12::30::62::127::255::[]) 464 AG AG V<|B2 0 V I0 Y ?_;refine A2 1 V (AJ Y)<|A2 2 V (AV (off:=1) NX V rfl HM Y)<|B2 3 V I0 Y ?_;refine Yz 4 12 31 [3,0] [false,true] [(0,(_,_))] rfl Y rfl rfl rfl rfl (Zu [_] Y call70 Y rfl (Kk bf (by rw [EJ];omega) (fun s h=>by have:=PX (fun r hr=>O r (GV hr)) s h;omega) W zg))<|C3<|BT<|A2 5 rfl (CY Y Y (by rw [BO,BO,Dk];have:=I8 ((BI rs (x.1:Int) x.2).length:Int) A0 A0;omega))<|Yz 6 62 127 [0] [true] [(0,(_,_))] rfl Y rfl rfl rfl rfl (Af (vs:=[_]) (cs:=[_]) Bk CH HR Y rfl rfl rfl rfl rfl)<|AF fun b3=>BT<|Yw 7 255 V (Db (by_:=16) (sz:=1) (news:=[_]) Bk (V:Tryz.prog.info? 9=some Tryz.t9) V rfl V rfl Y m Y Wo Wh An V GF AK A0 A0) ?_;rintro _ _ ⟨o8,y,rfl⟩;obtain ⟨kv,gq,rfl⟩:=y.form;refine Yw 8 511 V (Zs HM Y Y V (hi:=by(simp;done)))<|C3<|Ao<|Zn [] ?_;refine A8<|L8 V (by exact ⟨_,_,V,BH y B3 (by simp [WZ,Ci,CZ])⟩)
 intro D1 H2 ax;obtain ⟨Z,s2,rfl,m⟩:=ax;refine Zn [3] ?_;refine A8<|Zx<|A1<|Zl I0 Y ?_;refine A3 Y<|AA<|LA V (YM results111 Y) Wo (by exact ⟨s2,m,V⟩)
def Cm(pd:AY->Bool)(l:List AY):Nat:=(l.takeWhile (fun x=>!pd x)).length
theorem Gj(g:AY->Bool)(l:List AY):Cm g l<=l.length:=(List.takeWhile_sublist _).length_le
theorem Tp{g:AY->Bool}:∀{l:List AY} {i:Nat} {x:AY},l[i]?=some x->g x=true->(∀(j:Nat) (y:AY),j<i->l[j]?=some y->g y=false)->Cm g l=i
 |[],i,x,hx,_,_=>by simp at hx
 |z::l,0,x,hx,hp,_=>by
  simp only [T7,TO]at hx;subst hx;simp [Cm,hp]
 |z::l,i+1,x,hx,hp,hno=>by
  simp only [W5]at hx;have h0:=hno 0 z A0 rfl
  have m:=Tp (l:=l) hx hp (fun j y E hy=>hno (j+1) y A0 hy);unfold Cm at m⊢;rw [W8,B0 (by simp [h0]),D3,m]
theorem OP{m:AY->Bool}:∀{l:List AY},(∀(j:Nat) (y:AY),l[j]?=some y->m y=false)->Cm m l=l.length
 |[],_=>rfl
 |z::l,hno=>by
  have h0:=hno 0 z rfl;have g:=OP (l:=l) (fun j y hy=>hno (j+1) y hy)
  unfold Cm at g⊢;rw [W8,B0 (by simp [h0]),D3,g,D3]
def RZ(n len:Nat):Int:=if n<len then(n:Int)else-1
def geV(c:Nat)(lo:Int)(r:AY):Bool:=decide (lo<=DZ r c)
def gtV(c:Nat)(hi:Int)(r:AY):Bool:=decide (hi<DZ r c)
theorem yJ(v lo:Int)(g:Nat):BC prog 109 #[I4 v,I5 g] [[(g,.cells #[I4 lo] 3 (0,0))]] (.bool (decide (lo<=v))):=by
 refine Se func109 ntmps109 [0,1] ?_;intro u R;refine A1<|A3 Y<|A1<|Zm Y<|Zl AE Y<|Zv (I1 Y Y)<|A3 Y<|AA<|AC V results109 Y (by exact ⟨V,V⟩)
theorem zN(r:AY)(c:Nat)(hc:c<=3)(lo:Int)(y m g:Nat):BC prog 108 #[.agg r.Ao5,I5 y,I5 m] [[(y,.cells #[.func (.func 109) #[] #[I5 g]] 181 (0,0))],[(m,.cells #[I4 (c:Int)] 3 (0,0))],[(g,.cells #[I4 lo] 3 (0,0))]] (.bool (geV c lo r)):=by
 refine Se func108 ntmps108 [0,1,2] ?_;intro u R;refine A1<|Ze (Bx #[_,_,_,_,_])<|AF fun E=>A3 Y<|Zq<|BJ (n:=6) (0::0::0::6::15::31::[]) 24 AG AG V<|B2 0 V isAgg181 Y ?_;refine Fc 1 V Wh (Pa #[_,_,_,_,_] C7 Ax Y) ?_;refine B2 2 V AE Y ?_;refine Yz 3 6 15 [2,1,0] [false,false,true] [(0,(_,_))] V Y V rfl V rfl (Zu [_,_] Y Q2 Y V (SE r c hc))<|C3<|BT<|Yw 4 31 V (Zu [_] Y call109 Y V (yJ (DZ r c) lo g))<|C3<|A2 5 V (BF Y)<|Ao<|Zx<|AA<|AC V results108 Y (by exact ⟨V,V⟩)
variable{L:List AY}
theorem zS(hv:Da M v L)(hn:L.length<=1000000)(c:Nat)(hc:c<=3)(lo:Int)(K J O:Nat):BC prog 107 #[v,.func (.func 108) #[] #[I5 K,I5 J]] [[(K,.cells #[.func (.func 109) #[] #[I5 O]] 181 (0,0))],[(J,.cells #[I4 (c:Int)] 3 (0,0))],[(O,.cells #[I4 lo] 3 (0,0))],M] (I4 (RZ (Cm (geV c lo) L) L.length)):=by
 have af:=mL;obtain ⟨p,cap,rfl,hl,hg⟩:=hv;refine Se func107 ntmps107 [0,1] ?_;intro u R;refine A1<|A3 Y<|Zq<|A1<|Zm Y<|Zv (AP B4 Y)<|Zm Y<|AD<|AX<|Zb [8,0,1,7] ?_;refine BB (e0:=[(8,_)]) (fun m e H=>∃(i:Nat),m=L.length -i/\(i<=L.length/\∀(j:Nat) (y:AY),j<i->L[j]?=some y->geV c lo y=false)/\e=[(8,I4 (i:Int))]/\H=[]) (by exact ⟨0,V,⟨C2 _,by intro j y hj;omega⟩,V,V⟩) Wp ?_;rintro _ _ _ ⟨i,rfl,⟨hi,G⟩,rfl,rfl⟩;refine A1<|Zv (Au Y Y)<|AD<|Zq<|Ak Y (fun E=>?_) (fun E=>?_);·
  obtain ⟨x,hx⟩:∃x,L[i]?=some x:=⟨_,zn E⟩;obtain ⟨g,off,cur,T,zz,rfl,W,Z,I⟩:=hg i x hx;refine AB<|Zx<|Zq<|AX<|A1<|Zm Y<|A3 Y<|A1<|Zm Y<|Zm Y<|Zm Y<|Ap (AO B4 Ax Y Y A0)<|Ca (cs:=[(g,.cells cur T zz)]) (by simp [W]) (A9 (cs:=x.Ao5) C7 Ax Y A0 I) V rfl<|Xr [_] Y call108 Y V (zN x c hc lo K J O)<|AD<|Ad Y (fun X=>?_) (fun X=>?_);·
   refine A1<|Zm Y<|A3 Y<|AA<|Ab<|Zt<|Zt<|Ab<|Zt<|AC rfl dT Y (by exact ⟨by rw [Tp hx X G];unfold RZ;rw [B0 E],rfl⟩)
  refine AB<|A8<|Zx<|Zg<|Ya (n:=1) Y Y<|Zm Y<|Z0<|Zn [8,0,1,7] ?_;refine AZ (e':=[(8,_)]) (by exact ⟨i+1,rfl,⟨by omega,fun j y hj hy=>by rcases DP j i with h9|h9;exact G j y h9 hy;obtain rfl:j=i:=A0;rw [hx]at hy;injection hy with hy;rw [<-hy];exact X⟩,rfl,rfl⟩)
 have U:Cm (geV c lo) L=L.length:=OP (fun j y hy=>G j y (by have:=(zt.1 hy).1;omega) hy);refine Aw<|Zt<|Zt<|AQ<|Zx<|A1<|A3 Y<|AA<|AC rfl dT Y (by exact ⟨by rw [U];unfold RZ;rw [As A0],rfl⟩)
theorem yL{J W:A4}(hv:Da M J L)(hn:L.length<=1000000)(c:Nat)(hc:c<=3)(lo:Int)(I m y:Nat):BC prog 106 #[.func (.func 109) #[] #[I5 y],I5 I,I5 m] [[(I,.cells #[J,W] 179 (0,0))],[(m,.cells #[I4 (c:Int)] 3 (0,0))],[(y,.cells #[I4 lo] 3 (0,0))],M] (I4 ((Cm (geV c lo) L:Nat):Int)):=by
 have U:=mL;obtain ⟨p,cap,rfl,Z,X⟩:=id hv;have O:=Gj (geV c lo) L
 refine Se func106 ntmps106 [0,1,2] ?_;intro u R;refine A1<|Ze (Bx #[_])<|AF fun K=>A3 Y<|A1<|Zh 0 NX V rfl C4 Y<|Zl DO Y<|Zv (Bt (vs:=[]) (us:=[_,_]) Y Y)<|Xr [_,_] Y call107 Y V (zS hv hn c hc lo K m y)<|A3 Y<|Zq<|A1<|Zm Y<|Zv (ET Y Y)<|AD<|Ak Y (fun g=>?_) (fun g=>?_);·
  have E:Cm (geV c lo) L=L.length:=by
   rcases DP (Cm (geV c lo) L) L.length with h9|h9
   · unfold RZ at g;rw [B0 h9]at g;omega
   · omega
  refine A1<|Zh 0 NX V rfl C4 Y<|Zl DO Y<|Zv (AP B4 Y)<|AH Y<|Zn [4] ?_;refine Zx<|AA<|Zt<|AC rfl results106 Y (by exact ⟨by rw [E],rfl⟩)
 have G:Cm (geV c lo) L<L.length:=by
  rcases DP (Cm (geV c lo) L) L.length with h9|h9
  · exact h9
  · unfold RZ at g;rw [As A0]at g;omega
 refine AB<|Zx<|A1<|Zm Y<|A3 Y<|AA<|AC rfl results106 Y (by exact ⟨by unfold RZ;rw [B0 G],rfl⟩)
theorem yI(v lo:Int)(g:Nat):BC prog 110 #[I4 v,I5 g] [[(g,.cells #[I4 lo] 3 (0,0))]] (.bool (decide (lo<v))):=by
 refine Se func110 ntmps110 [0,1] ?_;intro u R;refine A1<|A3 Y<|A1<|Zm Y<|Zl AE Y<|Zv (EI Y Y)<|A3 Y<|AA<|AC V results110 Y (by exact ⟨V,V⟩)
theorem zM(r:AY)(c:Nat)(hc:c<=3)(lo:Int)(y m g:Nat):BC prog 108 #[.agg r.Ao5,I5 y,I5 m] [[(y,.cells #[.func (.func 110) #[] #[I5 g]] 181 (0,0))],[(m,.cells #[I4 (c:Int)] 3 (0,0))],[(g,.cells #[I4 lo] 3 (0,0))]] (.bool (gtV c lo r)):=by
 refine Se func108 ntmps108 [0,1,2] ?_;intro u R;refine A1<|Ze (Bx #[_,_,_,_,_])<|AF fun E=>A3 Y<|Zq<|BJ (n:=6) (0::0::0::6::15::31::[]) 24 AG AG V<|B2 0 V isAgg181 Y ?_;refine Fc 1 V Wh (Pa #[_,_,_,_,_] C7 Ax Y) ?_;refine B2 2 V AE Y ?_;refine Yz 3 6 15 [2,1,0] [false,false,true] [(0,(_,_))] V Y V rfl V rfl (Zu [_,_] Y Q2 Y V (SE r c hc))<|C3<|BT<|Yw 4 31 V (Zu [_] Y call110 Y V (yI (DZ r c) lo g))<|C3<|A2 5 V (BF Y)<|Ao<|Zx<|AA<|AC V results108 Y (by exact ⟨V,V⟩)
theorem zR(hv:Da M v L)(hn:L.length<=1000000)(c:Nat)(hc:c<=3)(lo:Int)(K J O:Nat):BC prog 107 #[v,.func (.func 108) #[] #[I5 K,I5 J]] [[(K,.cells #[.func (.func 110) #[] #[I5 O]] 181 (0,0))],[(J,.cells #[I4 (c:Int)] 3 (0,0))],[(O,.cells #[I4 lo] 3 (0,0))],M] (I4 (RZ (Cm (gtV c lo) L) L.length)):=by
 have af:=mL;obtain ⟨p,cap,rfl,hl,hg⟩:=hv;refine Se func107 ntmps107 [0,1] ?_;intro u R;refine A1<|A3 Y<|Zq<|A1<|Zm Y<|Zv (AP B4 Y)<|Zm Y<|AD<|AX<|Zb [8,0,1,7] ?_;refine BB (e0:=[(8,_)]) (fun m e H=>∃(i:Nat),m=L.length -i/\(i<=L.length/\∀(j:Nat) (y:AY),j<i->L[j]?=some y->gtV c lo y=false)/\e=[(8,I4 (i:Int))]/\H=[]) (by exact ⟨0,V,⟨C2 _,by intro j y hj;omega⟩,V,V⟩) Wp ?_;rintro _ _ _ ⟨i,rfl,⟨hi,G⟩,rfl,rfl⟩;refine A1<|Zv (Au Y Y)<|AD<|Zq<|Ak Y (fun E=>?_) (fun E=>?_);·
  obtain ⟨x,hx⟩:∃x,L[i]?=some x:=⟨_,zn E⟩;obtain ⟨g,off,cur,T,zz,rfl,W,Z,I⟩:=hg i x hx;refine AB<|Zx<|Zq<|AX<|A1<|Zm Y<|A3 Y<|A1<|Zm Y<|Zm Y<|Zm Y<|Ap (AO B4 Ax Y Y A0)<|Ca (cs:=[(g,.cells cur T zz)]) (by simp [W]) (A9 (cs:=x.Ao5) C7 Ax Y A0 I) V rfl<|Xr [_] Y call108 Y V (zM x c hc lo K J O)<|AD<|Ad Y (fun X=>?_) (fun X=>?_);·
   refine A1<|Zm Y<|A3 Y<|AA<|Ab<|Zt<|Zt<|Ab<|Zt<|AC rfl dT Y (by exact ⟨by rw [Tp hx X G];unfold RZ;rw [B0 E],rfl⟩)
  refine AB<|A8<|Zx<|Zg<|Ya (n:=1) Y Y<|Zm Y<|Z0<|Zn [8,0,1,7] ?_;refine AZ (e':=[(8,_)]) (by exact ⟨i+1,rfl,⟨by omega,fun j y hj hy=>by rcases DP j i with h9|h9;exact G j y h9 hy;obtain rfl:j=i:=A0;rw [hx]at hy;injection hy with hy;rw [<-hy];exact X⟩,rfl,rfl⟩)
 have U:Cm (gtV c lo) L=L.length:=OP (fun j y hy=>G j y (by have:=(zt.1 hy).1;omega) hy);refine Aw<|Zt<|Zt<|AQ<|Zx<|A1<|A3 Y<|AA<|AC rfl dT Y (by exact ⟨by rw [U];unfold RZ;rw [As A0],rfl⟩)
theorem yK{J W:A4}(hv:Da M J L)(hn:L.length<=1000000)(c:Nat)(hc:c<=3)(lo:Int)(I m y:Nat):BC prog 106 #[.func (.func 110) #[] #[I5 y],I5 I,I5 m] [[(I,.cells #[J,W] 179 (0,0))],[(m,.cells #[I4 (c:Int)] 3 (0,0))],[(y,.cells #[I4 lo] 3 (0,0))],M] (I4 ((Cm (gtV c lo) L:Nat):Int)):=by
 have U:=mL;obtain ⟨p,cap,rfl,Z,X⟩:=id hv;have O:=Gj (gtV c lo) L
 refine Se func106 ntmps106 [0,1,2] ?_;intro u R;refine A1<|Ze (Bx #[_])<|AF fun K=>A3 Y<|A1<|Zh 0 NX V rfl C4 Y<|Zl DO Y<|Zv (Bt (vs:=[]) (us:=[_,_]) Y Y)<|Xr [_,_] Y call107 Y V (zR hv hn c hc lo K m y)<|A3 Y<|Zq<|A1<|Zm Y<|Zv (ET Y Y)<|AD<|Ak Y (fun g=>?_) (fun g=>?_);·
  have E:Cm (gtV c lo) L=L.length:=by
   rcases DP (Cm (gtV c lo) L) L.length with h9|h9
   · unfold RZ at g;rw [B0 h9]at g;omega
   · omega
  refine A1<|Zh 0 NX V rfl C4 Y<|Zl DO Y<|Zv (AP B4 Y)<|AH Y<|Zn [4] ?_;refine Zx<|AA<|Zt<|AC rfl results106 Y (by exact ⟨by rw [E],rfl⟩)
 have G:Cm (gtV c lo) L<L.length:=by
  rcases DP (Cm (gtV c lo) L) L.length with h9|h9
  · exact h9
  · unfold RZ at g;rw [As A0]at g;omega
 refine AB<|Zx<|A1<|Zm Y<|A3 Y<|AA<|AC rfl results106 Y (by exact ⟨by unfold RZ;rw [B0 G],rfl⟩)
theorem RB(t c:Int):BC prog 104 #[I4 t,I4 c] [] (.bool (decide ((0<=t/\t<4)/\0<=c/\c<4))):=by
 refine Se func104 ntmps104 [0,1] ?_;intro u R;refine A1<|A3 Y<|A1<|Zm Y<|Zv (I1 Y Y)<|Zm Y<|Ai (t:=7) Y V (fun g=>?_) (fun g=>?_);·
  refine Zf Y Y<|Yg (ET Y Y)<|Zv (AR Y Y)<|Zm Y<|Ai (t:=11) Y V (fun h2=>?_) (fun h2=>?_);·
   refine Zf Y Y<|Yg (I1 Y Y)<|Zv (AR Y Y)<|Zm Y<|Ai (t:=15) Y V (fun m=>?_) (fun m=>?_);·
    refine Zf Y Y<|Yg (ET Y Y)<|Zv (AR Y Y)<|AH Y<|Zn [4] ?_;refine Zx<|AA<|AC V results104 Y (by exact ⟨by exact congrArg Value.bool (decide_eq_decide.2 A0),V⟩)
   refine A7 Y V<|A7 Y V<|Zv (AL Y Y)<|AH Y<|Zn [4] ?_;refine Zx<|AA<|AC V results104 Y (by exact ⟨by exact congrArg Value.bool (Bm A0).symm,V⟩)
  refine A7 Y V<|A7 Y V<|Zv (AL Y Y)<|Zm Y<|A7 Y V<|A7 Y V<|Zv (AL Y Y)<|AH Y<|Zn [4] ?_;refine Zx<|AA<|AC V results104 Y (by exact ⟨by exact congrArg Value.bool (Bm A0).symm,V⟩)
 refine A7 Y V<|A7 Y V<|Zv (AL Y Y)<|Zm Y<|A7 Y V<|A7 Y V<|Zv (AL Y Y)<|Zm Y<|A7 Y V<|A7 Y V<|Zv (AL Y Y)<|AH Y<|Zn [4] ?_;refine Zx<|AA<|AC V results104 Y (by exact ⟨by exact congrArg Value.bool (Bm A0).symm,V⟩)
structure RP where
 tb:Int
 cl:Int
 lo:Int
 hi:Int
 ct:Int
 fi:Int
 rows:List AY
 paths:List (List Bs)
 roots:List Bs
deriving DecidableEq
def CR(L:List AY)(c:Nat)(lo:Int):Nat:=Cm (geV c lo) L -1
def toT(L:List AY)(c:Nat)(hi:Int):Nat:=min (Cm (gtV c hi) L+1) L.length
def Jk(L:List AY)(f k:Nat):List (List Bs):=(List.range k).map fun j=>EK (Gu L) (f+j)
def Eb(rs:List AY)(t c:Nat)(lo hi:Int):RP:=
 ⟨t,c,lo,hi,(BI rs (t:Int) c).length,(CR (BI rs (t:Int) c) c lo:Nat),((BI rs (t:Int) c).drop (CR (BI rs (t:Int) c) c lo)).take (toT (BI rs (t:Int) c) c hi -CR (BI rs (t:Int) c) c lo),
   Jk (BI rs (t:Int) c) (CR (BI rs (t:Int) c) c lo) (toT (BI rs (t:Int) c) c hi -CR (BI rs (t:Int) c) c lo),Im rs⟩
def G6(M:List AU)(pvs:List A4)(ps:List (List Bs)):Prop:=pvs.length=ps.length/\∀(i:Nat) (v:A4) (l:List Bs),pvs[i]?=some v->ps[i]?=some l->DK M v l
theorem ja(M:List AU):G6 M [] []:=⟨rfl,by intro i v l h;simp at h⟩
theorem G6.snoc{M':List AU}{g:List A4}{ps:List (List Bs)}(h:G6 M g ps){l:List Bs}(hv:DK M' v l)(E:∀c∈M,c∈M'):G6 M' (g++[v]) (ps++[l]):=by
 obtain ⟨y,h2⟩:=h;refine ⟨by rw [zq,zq,y];rfl,?_⟩;intro i w k hi m;rcases DP i g.length with h9|h9
 · rw [dt h9]at hi
   rw [dt A0]at m;exact (h2 i w k hi m).mono E
 · rw [T0 h9]at hi
   rw [T0 A0]at m;rw [y]at hi;cases h:i -ps.length with
   |zero=>rw [h]at hi m;simp at hi m;rw [<-hi,<-m];exact hv
   |succ n=>rw [h]at hi;simp at hi
theorem Ye(L:List AY)(f k:Nat):Jk L f (k+1)=Jk L f k++[EK (Gu L) (f+k)]:=by unfold Jk;rw [cQ,Dg];rfl
theorem O7(L:List AY)(f k:Nat):(Jk L f k).length=k:=by unfold Jk;rw [zu,eJ]
theorem uM{e:AM}{xs:List A4}{s:List AU}(h:BZ 1 e v n xs s):n<=maxLen:=by
 obtain ⟨_,⟨_,h0,_⟩|⟨_,_,_,_,_,_,g,h2,_⟩⟩:=h;· omega
 · omega
theorem FO(rs:List AY):(Im rs).length=16:=by unfold Im;rw [zu];rfl
set_option maxHeartbeats 4000000 in
theorem bu(v:A4)(p:Int)(rs:List AY)(s:List AU)(hv:Pk v p rs s)(hs:BL rs)(hn:rs.length<=2000)(ax:∀r∈rs,r.ok)(t c:Nat)(ht:t<=3)(hc:c<=3)(lo hi:Int)(qh:lo<=hi)(Tg:AM)(zg:Nat×Nat):
 Bz prog 48 #[v,I4 (t:Int),I4 (c:Int),I4 lo,I4 hi] [[(1,.cells (Di.map CB).toArray Tg zg)],s] (fun r H'=>∃vr vp vt O sp I U Z,r= .tuple #[.agg #[I4 (t:Int),I4 (c:Int),I4 lo,I4 hi,I4 (((BI rs (t:Int) c).length:Nat):Int),I4 (((CR (BI rs (t:Int) c) c lo):Nat):Int),vr,vp,vt],I4 0]/\BZ 5 98 vr (((BI rs (t:Int) c).drop (CR (BI rs (t:Int) c) c lo)).take ((toT (BI rs (t:Int) c) c hi) -(CR (BI rs (t:Int) c) c lo))).length (Ac (((BI rs (t:Int) c).drop (CR (BI rs (t:Int) c) c lo)).take ((toT (BI rs (t:Int) c) c hi) -(CR (BI rs (t:Int) c) c lo)))) O/\BZ 1 56 vp ((toT (BI rs (t:Int) c) c hi) -(CR (BI rs (t:Int) c) c lo)) I sp/\G6 U I (Jk (BI rs (t:Int) c) (CR (BI rs (t:Int) c) c lo) ((toT (BI rs (t:Int) c) c hi) -(CR (BI rs (t:Int) c) c lo)))/\BZ 1 9 vt 16 ((Im rs).map Ci) Z/\H'=[O,sp,U,Z,[(1,.cells (Di.map CB).toArray Tg zg)],s]):=by
 have qw:=mL;obtain ⟨sw,sj,qa,q9,r9,rfl,pz⟩:=id hv;have qo:=Fh hs (t:Int) c
 have qc:=Gj (geV c lo) (BI rs (t:Int) c);have qd:=Gj (gtV c hi) (BI rs (t:Int) c)
 have qg:(CR (BI rs (t:Int) c) c lo)=Cm (geV c lo) (BI rs (t:Int) c) -1:=rfl;have qA:(toT (BI rs (t:Int) c) c hi)=min (Cm (gtV c hi) (BI rs (t:Int) c)+1) (BI rs (t:Int) c).length:=rfl
 refine Se func48 ntmps48 [0,1,2,3,4] ?_;intro u R;refine A1<|Ze (Bx #[_])<|AF fun bc=>Ze (Bx #[_])<|AF fun bl=>Ze (Bx #[_])<|AF fun bh=>Ze (Al P0 #[_,_,_,_,_,_,_,_,_])<|AF fun qb=>A3 Y<|Zq<|AX<|A1<|Zm Y<|Zv (Ef ao Y Y)<|A3 Y<|Ad Y (fun h1=>by cases h1)<|fun h1=>A1<|Zm Y<|Zl AE Y ?_;refine Xr [_,_] Y call104 Y V (RB (t:Int) (c:Int)) ?_;rw [CA (show((0<=(t:Int)/\(t:Int)<4)/\0<=(c:Int)/\(c:Int)<4) by omega)];refine Zv (Cj Y)<|Zm Y<|Ah (t:=29) Y V (fun h2=>by cases h2)<|fun h2=>Yl AE Y ?_;refine Yl AE Y ?_;refine Yg (EI Y Y)<|Zv (AL Y Y)<|AH Y<|Zn [0,1,7,8,9,10,24] ?_;refine Zx<|Ak Y (fun h3=>by omega)<|fun h3=>AB<|A8<|Zx<|A1<|Zm Y<|Zm Y<|Zl AE Y ?_;refine Zc [_,_,_] Y call105 Y V (TD _ p rs s hv hs hn ax (t:Int) c hc) ?_;rintro _ _ ⟨_,⟨vr,ve,sr,se,rfl,hO,rfl⟩,rfl⟩;obtain ⟨qr,cr,rfl⟩:=hO.1.form;obtain ⟨qe,ce,rfl⟩:=hO.2.form;have bn:=D6 hO.1 A0
 have o8:DK se (.slice qe (BI rs (t:Int) c).length ce) (Gu (BI rs (t:Int) c)):=Eu (BH hO.2 (EJ _).symm rfl) (by rw [EJ];omega);obtain ⟨p9,pq,e9,qz,hg⟩:=id bn;injection e9 with e91 e92 e93
 subst e91 e93;refine Ze (Al ee #[_,_])<|AF fun ob=>Xe (Xw de #[.slice qr (BI rs (t:Int) c).length cr,.slice qe (BI rs (t:Int) c).length ce]) ?_;refine AD<|A1<|Zv (Bt (vs:=[]) (us:=[_,_]) Y Y)<|A3 Y<|A1<|Zm Y<|Zv (Bt (vs:=[]) (us:=[_]) Y Y)<|Xr [_] Y call106 Y V (yL bn A0 c hc lo ob bc bl) ?_
 (refine Ap (HV Y Y (IntWalk.i64_in _ ?_)) ?_;(focus (omega)))
 refine Zv (Jl Y Y)<|AH Y<|Zn [0,1,7,8,9,10,12,13,14] ?_;refine Zx<|Zq<|BJ (n:=9) (0::0::3::7::0::16::48::127::255::[]) 4 AG AG V<|A2 0 V (AJ Y)<|A2 1 V (Bt (vs:=[]) (us:=[_]) Y Y)<|A2 4 V (AV (off:=0) NX V rfl C4 Y)<|B2 5 V DO Y ?_;refine A2 6 V (AP B4 Y)<|Zz (l:=[2])<|BE [true] [(5,(_,_))] V rfl (Zu [_] Y call106 Y V (yK bn A0 c hc hi ob bc bh)) ?_ (fun _ _ h=>h.elim) Ay;rintro _ _ ⟨rfl,rfl⟩;refine BT<|A2 3 V (Bp (n:=1) Y Y A0)<|A2 7 V (Ky Y Y)<|A2 8 V (BF Y)<|Ao<|Zx<|Zb [0,1,7,8,9,10,12,14,15] ?_;refine CL (e0:=[(0,_),(1,_),(7,_),(8,_),(9,_)]) (H0:=[]) (fun e H=>∃(pb:Nat) (qt:B7) (ct:Nat) (Z:List AU),(BZ 1 9 (.slice qt 16 ct) 16 ((Im rs).map Ci) Z)/\e=[(16,I5 pb)]/\H=[[(pb,.cells #[I4 (t:Int),I4 (c:Int),I4 lo,I4 hi,I4 (((BI rs (t:Int) c).length:Nat):Int),I4 (((CR (BI rs (t:Int) c) c lo):Nat):Int),.slice none 0 0,.slice none 0 0,.slice qt 16 ct] 87 (0,0))],Z]) Wp ?hx_2 ?hy_2
 case hx_2=>
  refine BJ (n:=13) (0::0::0::0::0::16::48::0::0::256::1023::0::4095::[]) 6656 AG AG V<|A2 0 V (AJ Y)<|B2 1 V AE Y ?_;refine B2 2 V AE Y ?_;refine B2 3 V AE Y ?_;refine A2 4 V (AV (off:=0) NX V rfl C4 Y)<|B2 5 V DO Y ?_;refine A2 6 V (AP B4 Y)<|A2 7 V (AJ Y)<|A2 8 V (AJ Y)<|Zz (l:=[9,11])<|BE [true,true,true,true] [(5,(_,_)),(3,(_,_)),(2,(_,_)),(1,(_,_))] V rfl (Zw [_] Y call111 Y V (Uu _ p rs s hv hs hn ax Tg zg)) ?_ Co ?_;·
   rintro _ _ ⟨_,⟨Z,K,rfl⟩,rfl⟩;refine ⟨Zk (Zk (Zk (Zk (Ae)))),?_⟩;obtain ⟨qt,ct,rfl⟩:=K.form;refine A2 10 V (BQ (vs:=[(0,I4 (t:Int)),(1,I4 (c:Int)),(2,I4 lo),(3,I4 hi),(4,I4 (((BI rs (t:Int) c).length:Nat):Int)),(5,I4 (((CR (BI rs (t:Int) c) c lo):Nat):Int)),(8,.slice qt 16 ct)]) (cs:=#[I4 (t:Int),I4 (c:Int),I4 lo,I4 hi,I4 (((BI rs (t:Int) c).length:Nat):Int),I4 (((CR (BI rs (t:Int) c) c lo):Nat):Int),.slice none 0 0,.slice none 0 0,.slice qt 16 ct]) Y (Aa (pl:=#[(0,1),(1,1),(2,1),(3,1),(4,1),(5,1),(6,1),(7,1),(8,1)]) P0 C1 (fun _=>by kernel_rfl) AG))<|Yz 11 0 4095 [5,3,2,1] [true,true,true,true] [(5,(_,_)),(3,(_,_)),(2,(_,_)),(1,(_,_))] V Y V rfl V rfl (Al P0 #[_,_,_,_,_,_,_,_,_])<|AF fun pb=>BT<|Yw 12 8191 V (Xw DE #[I4 (t:Int),I4 (c:Int),I4 lo,I4 hi,I4 (((BI rs (t:Int) c).length:Nat):Int),I4 (((CR (BI rs (t:Int) c) c lo):Nat):Int),.slice none 0 0,.slice none 0 0,.slice qt 16 ct])<|C3<|Ao<|Zn [16,10,12,14,15] ?_;refine Aq (e':=[(16,_)]) (by exact ⟨pb,qt,ct,Z,K,V,V⟩)
  refine BE [true,true,true,true] [(5,(_,_)),(3,(_,_)),(2,(_,_)),(1,(_,_))] V rfl (Al P0 #[_,_,_,_,_,_,_,_,_]) ?_ (fun _ _ h=>h.elim) Ay;rintro _ _ ⟨pb,rfl,rfl⟩;refine BT<|Zz (l:=[9])<|BE [true,true,true,true] [(5,(_,_)),(3,(_,_)),(2,(_,_)),(1,(_,_))] V rfl (Zw [_] Y call111 Y V (Uu _ p rs s hv hs hn ax Tg zg)) ?_ Co Ay;rintro _ _ ⟨_,⟨Z,K,rfl⟩,rfl⟩;refine ⟨Zk (Zk (Zk (Zk (Ae)))),?_⟩;obtain ⟨qt,ct,rfl⟩:=K.form;refine A2 10 V (BQ (vs:=[(0,I4 (t:Int)),(1,I4 (c:Int)),(2,I4 lo),(3,I4 hi),(4,I4 (((BI rs (t:Int) c).length:Nat):Int)),(5,I4 (((CR (BI rs (t:Int) c) c lo):Nat):Int)),(8,.slice qt 16 ct)]) (cs:=#[I4 (t:Int),I4 (c:Int),I4 lo,I4 hi,I4 (((BI rs (t:Int) c).length:Nat):Int),I4 (((CR (BI rs (t:Int) c) c lo):Nat):Int),.slice none 0 0,.slice none 0 0,.slice qt 16 ct]) Y (Aa (pl:=#[(0,1),(1,1),(2,1),(3,1),(4,1),(5,1),(6,1),(7,1),(8,1)]) P0 C1 (fun _=>by kernel_rfl) AG))<|Yw 12 8191 V (Xw DE #[I4 (t:Int),I4 (c:Int),I4 lo,I4 hi,I4 (((BI rs (t:Int) c).length:Nat):Int),I4 (((CR (BI rs (t:Int) c) c lo):Nat):Int),.slice none 0 0,.slice none 0 0,.slice qt 16 ct])<|C3<|Ao<|Zn [16,10,12,14,15] ?_;refine Aq (e':=[(16,_)]) (by exact ⟨pb,qt,ct,Z,K,V,V⟩)
 rintro _ _ ⟨pb,qt,ct,Z,K,rfl,rfl⟩;refine Zq<|A1<|Zm Y<|A3 Y<|AX<|Bl<|Bl<|Bl<|Zb [17,10,12,15,16] ?_;refine BB (e0:=[(17,_)]) (fun m e H=>∃(k:Nat) (d9:A4) (O:List AU) (vp:A4) (sp:List AU) (I:List A4) (U:List AU),m=(toT (BI rs (t:Int) c) c hi) -(CR (BI rs (t:Int) c) c lo) -k/\(k<=(toT (BI rs (t:Int) c) c hi) -(CR (BI rs (t:Int) c) c lo)/\BZ 5 98 d9 k (Ac (((BI rs (t:Int) c).drop (CR (BI rs (t:Int) c) c lo)).take k)) O/\BZ 1 56 vp k I sp/\G6 U I (Jk (BI rs (t:Int) c) (CR (BI rs (t:Int) c) c lo) k))/\e=[(17,I4 (((CR (BI rs (t:Int) c) c lo)+k:Nat):Int))]/\H=[[(pb,.cells #[I4 (t:Int),I4 (c:Int),I4 lo,I4 hi,I4 (((BI rs (t:Int) c).length:Nat):Int),I4 (((CR (BI rs (t:Int) c) c lo):Nat):Int),d9,vp,.slice qt 16 ct] 87 (0,0))],O,sp,U]) (by exact ⟨0,.slice none 0 0,[],.slice none 0 0,[],[],[],rfl,⟨C2 _,by rw [Hj];exact Ba 5 _,Ba 1 _,ja _⟩,rfl,rfl⟩) Wp ?_;rintro _ _ _ ⟨k,d9,O,vp,sp,I,U,rfl,⟨hk,X,W,hP⟩,rfl,rfl⟩;obtain ⟨q2,c2,rfl⟩:=X.form;obtain ⟨q3,c3,rfl⟩:=W.form;refine Zq<|A1<|Zm Y<|Zm Y<|Zv (Au Y Y)<|AD<|Ak Y (fun o9=>?_) (fun o9=>?_);·
  obtain ⟨x,hx⟩:∃x,(BI rs (t:Int) c)[(CR (BI rs (t:Int) c) c lo)+k]?=some x:=⟨_,zn A0⟩;obtain ⟨g,off,cur,T,zz,rfl,p8,q8,l8⟩:=hg _ x hx;have cO:((BI rs (t:Int) c).drop (CR (BI rs (t:Int) c) c lo))[k]?=some x:=by rw [Hh];exact hx
  refine AB<|Zx<|Zq<|AX<|A1<|Zh 1 NX V rfl HM Y<|Zl I0 Y ?_;refine Zm Y<|Zc [_,_] Y call112 Y rfl (cK o8 (by rw [EJ];omega) (fun s h=>by have:=PX (fun r hr=>ax r (GV hr)) s h;omega) ((CR (BI rs (t:Int) c) c lo)+k) (by rw [EJ];omega) Tg zg) ?_;rintro _ _ ⟨_,⟨pg,G,rfl,J,rfl⟩,rfl⟩;have cu:(EK (Gu (BI rs (t:Int) c)) ((CR (BI rs (t:Int) c) c lo)+k)).length<=maxLen:=uM J
  have mR:=Eu J cu;have bf:=Ye (BI rs (t:Int) c) (CR (BI rs (t:Int) c) c lo) k▸hP.snoc (mR.mono (fun c h=>E3 U h)) (fun c h=>DA G h)
  obtain ⟨qx,cx,rfl⟩:=J.form;refine Zm Y<|Zd Y V<|Zd Y V<|Za Y<|A3 Y<|NZ (s1:=G) (s2:=U) Wo Wo ?_;refine BJ (n:=18) (0::1::0::4::0::28::60::124::255::0::512::0::2048::8191::2047::32767::65535::131071::[]) 176512 AG AG V<|A2 0 V (AV (off:=6) C1 V rfl C4 Y)<|B2 1 V DO Y ?_;refine A2 2 V (AV (off:=0) NX V rfl C4 Y)<|B2 3 V DO Y ?_;refine A2 4 V (AJ Y)<|A2 5 V (AO B4 Ax Y Y A0)<|Gf (b:=g) (x:= .cells cur T zz) (D':=127) 6 V rfl V (by simp [p8]) (A9 (cs:=x.Ao5) C7 Ax Y A0 l8) ?_;refine A2 9 V (AV (off:=7) C1 V rfl Ln Y)<|B2 10 V W0 Y ?_;refine A2 11 V (AJ Y)<|Zz (l:=[7,12])<|BE [true,false,false,true] [(10,(_,_)),(1,(_,_))] V rfl (Af (vs:=[_]) (cs:=[_,_,_,_,_]) B4 Ax Dd Y V rfl V rfl V) ?_ (fun _ _ h=>h.elim) ?_;·
   rintro _ _ ⟨af,rfl,rfl⟩;refine BT<|Zz (l:=[8,12])<|BE [true,false] [(10,(_,_))] V rfl (BR (by_:=40) (sz:=5) B4 (V:Tryz.prog.info? 98=some Tryz.t98) V rfl V rfl Y (X) Y (Dy 5 af 1 1 98 (0,0) [I4 x.t,I4 x.k,I4 x.v.a,I4 x.v.b,I4 x.v.c] V) Wo Wo GF A0 A0) ?hk_13 (fun _ _ h=>h.elim) ?hl_13
   case hk_13=>
    rintro _ _ ⟨l9,y,rfl⟩;refine ⟨Zk (Ae),?_⟩;obtain ⟨gy,gm,rfl⟩:=y.form;refine A2 14 V (AV (off:=6) C1 V rfl C4 Y)<|Zz (l:=[12])<|BE [true] [(10,(_,_))] V rfl (Af (vs:=[_]) (cs:=[_]) Lk HM cY Y V rfl V rfl V) ?_ (fun _ _ h=>h.elim) Ay;rintro _ _ ⟨kv,rfl,rfl⟩;refine BT<|Yw 13 32767 V (Db (by_:=24) (sz:=1) (news:=[_]) Lk (V:Tryz.prog.info? 56=some Tryz.t56) V rfl V rfl Y W Y Wo Wh An V XS AK A0 A0) ?_;rintro _ _ ⟨lv,E,rfl⟩;obtain ⟨kz,gq,rfl⟩:=E.form;refine Yw 15 65535 V (Zs C4 Y Y V (hc:=by exact (V:_=(#[I4 (t:Int),I4 (c:Int),I4 lo,I4 hi,I4 (((BI rs (t:Int) c).length:Nat):Int),I4 (((CR (BI rs (t:Int) c) c lo):Nat):Int),_,_,.slice qt 16 ct]:AN))) (hi:=by(simp;done)))<|C3<|A2 16 V (AV (off:=7) C1 V rfl Ln Y)<|Zz (l:=[17])<|BE [] [] V rfl (Zs Ln Y Y V (hc:=by exact (V:_=(#[I4 (t:Int),I4 (c:Int),I4 lo,I4 hi,I4 (((BI rs (t:Int) c).length:Nat):Int),I4 (((CR (BI rs (t:Int) c) c lo):Nat):Int),_,_,.slice qt 16 ct]:AN))) (hi:=by(simp;done))) ?_ (fun _ _ h=>h.elim) Ay;rintro _ _ ⟨rfl,rfl⟩;refine BT<|Ao<|Zn [10,12,15,16,17] ?_;refine A8<|Zx<|Zg<|Zm Y<|Ya (n:=1) Y Y<|AH Y<|Zn [17,10,12,15,16] ?_;refine AZ (e':=[(17,_)]) (by exact ⟨k+1,_,_,_,_,I++[_],G++U,rfl,⟨by omega,BH y rfl (by rw [C8 cO,Bf];rfl),BH E rfl rfl,bf⟩,rfl,rfl⟩)
   refine BE [true,true] [(10,(_,_)),(1,(_,_))] V rfl (Af (vs:=[_]) (cs:=[_]) Lk HM cY Y V rfl V rfl V) ?_ (fun _ _ h=>h.elim) Ay;rintro _ _ ⟨kv,rfl,rfl⟩;refine BT<|Yz 8 255 8191 [10,1] [true,false] [(10,(_,_))] V Y V rfl V rfl (BR (by_:=40) (sz:=5) B4 (V:Tryz.prog.info? 98=some Tryz.t98) V rfl V rfl Y (X) Y (Dy 5 af 1 1 98 (0,0) [I4 x.t,I4 x.k,I4 x.v.a,I4 x.v.b,I4 x.v.c] V) Wo Wo GF A0 A0) ?_;rintro _ _ ⟨l9,y,rfl⟩;refine ⟨Zk (Ae),?_⟩;obtain ⟨gy,gm,rfl⟩:=y.form;refine A2 14 V (AV (off:=6) C1 V rfl C4 Y)<|Zz (l:=[13])<|BE [false] [] V rfl (Db (by_:=24) (sz:=1) (news:=[_]) Lk (V:Tryz.prog.info? 56=some Tryz.t56) V rfl V rfl Y W Y Wo Wh An V XS AK A0 A0) ?hk_21 (fun _ _ h=>h.elim) ?hl_21
   case hk_21=>
    rintro _ _ ⟨lv,E,rfl⟩;refine ⟨Ae,?_⟩;obtain ⟨kz,gq,rfl⟩:=E.form;refine Yw 15 65535 V (Zs C4 Y Y V (hc:=by exact (V:_=(#[I4 (t:Int),I4 (c:Int),I4 lo,I4 hi,I4 (((BI rs (t:Int) c).length:Nat):Int),I4 (((CR (BI rs (t:Int) c) c lo):Nat):Int),_,_,.slice qt 16 ct]:AN))) (hi:=by(simp;done)))<|C3<|A2 16 V (AV (off:=7) C1 V rfl Ln Y)<|Zz (l:=[17])<|BE [] [] V rfl (Zs Ln Y Y V (hc:=by exact (V:_=(#[I4 (t:Int),I4 (c:Int),I4 lo,I4 hi,I4 (((BI rs (t:Int) c).length:Nat):Int),I4 (((CR (BI rs (t:Int) c) c lo):Nat):Int),_,_,.slice qt 16 ct]:AN))) (hi:=by(simp;done))) ?_ (fun _ _ h=>h.elim) Ay;rintro _ _ ⟨rfl,rfl⟩;refine BT<|Ao<|Zn [10,12,15,16,17] ?_;refine A8<|Zx<|Zg<|Zm Y<|Ya (n:=1) Y Y<|AH Y<|Zn [17,10,12,15,16] ?_;refine AZ (e':=[(17,_)]) (by exact ⟨k+1,_,_,_,_,I++[_],G++U,rfl,⟨by omega,BH y rfl (by rw [C8 cO,Bf];rfl),BH E rfl rfl,bf⟩,rfl,rfl⟩)
   exact Ay
  refine BE [true,true,true,true] [(10,(_,_)),(6,(_,_)),(3,(_,_)),(1,(_,_))] V rfl (Af (vs:=[_]) (cs:=[_]) Lk HM cY Y V rfl V rfl V) ?_ (fun _ _ h=>h.elim) Ay;rintro _ _ ⟨kv,rfl,rfl⟩;refine ⟨Zk (OL (by simp [*]) (Zk (Zk (Ae)))),?_⟩;refine Yz 7 124 7935 [10,6,3,1] [true,false,false,true] [(10,(_,_)),(1,(_,_))] V Y V rfl V rfl (Af (vs:=[_]) (cs:=[_,_,_,_,_]) B4 Ax Dd Y V rfl V rfl V)<|AF fun af=>BT<|Yz 8 255 8191 [10,1] [true,false] [(10,(_,_))] V Y V rfl V rfl (BR (by_:=40) (sz:=5) B4 (V:Tryz.prog.info? 98=some Tryz.t98) V rfl V rfl Y (X) Y (Dy 5 af 1 1 98 (0,0) [I4 x.t,I4 x.k,I4 x.v.a,I4 x.v.b,I4 x.v.c] V) Wo Wo GF A0 A0) ?_;rintro _ _ ⟨l9,y,rfl⟩;refine ⟨Zk (Ae),?_⟩;obtain ⟨gy,gm,rfl⟩:=y.form;refine A2 14 V (AV (off:=6) C1 V rfl C4 Y)<|Zz (l:=[13])<|BE [false] [] V rfl (Db (by_:=24) (sz:=1) (news:=[_]) Lk (V:Tryz.prog.info? 56=some Tryz.t56) V rfl V rfl Y W Y Wo Wh An V XS AK A0 A0) ?hk_28 (fun _ _ h=>h.elim) ?hl_28
  case hk_28=>
   rintro _ _ ⟨lv,E,rfl⟩;refine ⟨Ae,?_⟩;obtain ⟨kz,gq,rfl⟩:=E.form;refine Yw 15 65535 V (Zs C4 Y Y V (hc:=by exact (V:_=(#[I4 (t:Int),I4 (c:Int),I4 lo,I4 hi,I4 (((BI rs (t:Int) c).length:Nat):Int),I4 (((CR (BI rs (t:Int) c) c lo):Nat):Int),_,_,.slice qt 16 ct]:AN))) (hi:=by(simp;done)))<|C3<|A2 16 V (AV (off:=7) C1 V rfl Ln Y)<|Zz (l:=[17])<|BE [] [] V rfl (Zs Ln Y Y V (hc:=by exact (V:_=(#[I4 (t:Int),I4 (c:Int),I4 lo,I4 hi,I4 (((BI rs (t:Int) c).length:Nat):Int),I4 (((CR (BI rs (t:Int) c) c lo):Nat):Int),_,_,.slice qt 16 ct]:AN))) (hi:=by(simp;done))) ?_ (fun _ _ h=>h.elim) Ay;rintro _ _ ⟨rfl,rfl⟩;refine BT<|Ao<|Zn [10,12,15,16,17] ?_;refine A8<|Zx<|Zg<|Zm Y<|Ya (n:=1) Y Y<|AH Y<|Zn [17,10,12,15,16] ?_;refine AZ (e':=[(17,_)]) (by exact ⟨k+1,_,_,_,_,I++[_],G++U,rfl,⟨by omega,BH y rfl (by rw [C8 cO,Bf];rfl),BH E rfl rfl,bf⟩,rfl,rfl⟩)
  exact Ay
 have ek:k=(toT (BI rs (t:Int) c) c hi) -(CR (BI rs (t:Int) c) c lo):=by omega
 subst ek;refine Aw<|Zt<|Zt<|AQ<|Zx<|A1<|Zo Wh (A9 (cs:=#[I4 (t:Int),I4 (c:Int),I4 lo,I4 hi,I4 (((BI rs (t:Int) c).length:Nat):Int),I4 (((CR (BI rs (t:Int) c) c lo):Nat):Int),.slice q2 _ c2,.slice q3 _ c3,.slice qt 16 ct]) LI DE Y B5 An) ?_;refine Xe (Xw DE #[I4 (t:Int),I4 (c:Int),I4 lo,I4 hi,I4 (((BI rs (t:Int) c).length:Nat):Int),I4 (((CR (BI rs (t:Int) c) c lo):Nat):Int),.slice q2 _ c2,.slice q3 _ c3,.slice qt 16 ct]) ?_;refine A3 Y<|AA<|CJ rfl results48 Y Wh (Ar LI DE Wn (rfl)) Y (by exact ⟨_,_,_,O,sp,I,U,Z,rfl,BH X (by rw [zy,C0];omega) rfl,W,hP,K,rfl⟩)
end Go.Proofs.YtlkdhannldcfbaaGreatDoor
