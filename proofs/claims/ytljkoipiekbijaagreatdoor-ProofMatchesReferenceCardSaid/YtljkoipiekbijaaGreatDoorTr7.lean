/- digest.Verify. -/
import Derived.Test.YtljkoipiekbijaaGreatDoorTr3
set_option linter.unusedVariables false
set_option linter.unusedSimpArgs false
namespace Go.Proofs.YtljkoipiekbijaaGreatDoor
open Go.Proofs.Tryz
open Go Go.RowKit Gw
set_option maxRecDepth 100000
attribute [local irreducible] Gw.At Gw.Nx Gw.Ops
def Jd(s:Bs):Bool:=!decide (s.length=32)
theorem WF{α:Type}(p:α->Bool)(ls:List α)(i:Nat)(x:α)(hx:ls[i]?=some x):(ls.take (i+1)).any p=((ls.take i).any p||p x):=by rw [Bt hx,List.any_append];simp
theorem jH{α:Type}(p:α->Bool)(ls:List α)(i:Nat)(x:α)(hx:ls[i]?=some x)(h:p x=true):ls.any p=true:=me.2 ⟨x,Fm hx,h⟩
def JE(x:Bs×Bool)(o:Bs):Bs:=if x.2 then Gt x.1 o else Gt o x.1
variable{x:Bs}
theorem yO{f:Bool}{o:Bs}(h:f=true):JE (x,f) o=Gt x o:=B2 h
theorem yP{f:Bool}{o:Bs}(h:f=false):JE (x,f) o=Gt o x:=Ax (by simp [h])
def Qj(l:List (Bs×Bool)):List A3:=l.flatMap (fun x=>[EF x.1,.bool x.2])
theorem Ru(l:List (Bs×Bool))(x:Bs×Bool):Qj (l++[x])=Qj l++[EF x.1,.bool x.2]:=by unfold Qj;rw [O2];rfl
def Nw(s:Bs):Nat->Nat->List Bs->Option Bs
 |n,_,[]=>if n<=1 then some (M9 s)else none
 |n,i,x::rp=>if n<=1 then none else if i<Bw n then(Nw s (Bw n) i rp).map (fun v=>Gt v x)else(Nw s (n -Bw n) (i -Bw n) rp).map (fun v=>Gt x v)
def NT(root:Bs)(n i:Nat)(s:Bs)(pf:List Bs):Bool:=!(pf.any Jd)&&decide (Nw s n i pf.reverse=some root)
variable{s:Bs}{i n:Nat}
theorem gL(h:2<=n):Nw s n i []=none:=Ax A0
theorem WS(h:n<=1)(rp:List Bs):Nw s n i rp=if rp=[]then some (M9 s)else none:=by
 cases rp with
 |nil=>exact B2 h
 |cons x rp=>exact B2 h
theorem Pq{rp:List Bs}(h:2<=n)(hi:i<Bw n):Nw s n i (x::rp)=(Nw s (Bw n) i rp).map (JE (x,false)):=by
 show(if n<=1 then _ else _)=_;rw [Ax A0,B2 hi];rfl
theorem Nv{rp:List Bs}(h:2<=n)(hi:¬i<Bw n):Nw s n i (x::rp)=(Nw s (n -Bw n) (i -Bw n) rp).map (JE (x,true)):=by
 show(if n<=1 then _ else _)=_;rw [Ax A0,Ax hi];rfl
theorem SX{l:List Bs}{k:Nat}(h:l[k]?=some x):(l.take (k+1)).reverse=x::(l.take k).reverse:=by rw [Bt h,cA];rfl
theorem Xm(w:List (Bs×Bool))(x:Bs×Bool)(o:Option Bs):(o.map (JE x)).map (fun v=>w.foldr JE v)=o.map (fun v=>(w++[x]).foldr JE v):=by
 cases o with
 |none=>rfl
 |some v=>simp
def tQ(M:List AR)(v:A3)(ls:List (Bs×Bool)):Prop:=∃p cap,v= .slice p ls.length cap/\(ls.length<=maxLen/\ls.length<=cap)/\∀(i:Nat) (x:Bs×Bool),ls[i]?=some x->∃g off cur T zz,p=some ⟨g,off,none⟩/\(g,Obj.cells cur T zz)∈M/\off+i*2+2<=cur.size/\cur.extract (off+i*2) (off+i*2+2)=#[EF x.1,.bool x.2]
variable{v:A3}
theorem bP{e:An}{ls:List (Bs×Bool)}{s:List AR}(h:BS 2 e v ls.length (Qj ls) s)(hn:ls.length<=maxLen):tQ s v ls:=by
 obtain ⟨b,cap,rfl⟩:=h.form;refine ⟨b,cap,V,⟨hn,Ew h⟩,fun i x hx=>?_⟩;obtain ⟨g,y,cur,z,hv,rfl,E,m⟩:=J7 h i (D3.1 hx).1;injection hv with hv1 hv2 hv3
 refine ⟨g,0,cur,e,z,hv1,by simp,by omega,?_⟩;unfold Qj at m;rw [Hg _ 2 (fun _=>rfl) ls i x hx]at m;rw [Dd];exact L5.1 m
theorem lg(xs:List (Bs×Bool))(q:Bs):(bwd xs).foldl (fun o (x:Nat×(Bs×Bool))=>JE x.2 o) q=xs.foldr JE q:=by
 have h:(bwd xs).foldl (fun o (x:Nat×(Bs×Bool))=>JE x.2 o) q=((bwd xs).map Prod.snd).foldl (fun o x=>JE x o) q:=by rw [List.foldl_map]
 rw [h,XV,List.foldl_reverse]
theorem qQ(s:Bs):(M9 s).length=32:=JY _
theorem uN(a b:Bs):decide (str a=str b)=(!false&&decide (some a=some b)):=by
 have h:(str a=str b)↔a=b:=⟨fun h=>by rw [<-J4 a,<-J4 b,h],fun h=>by rw [h]⟩;simp [h]
theorem lH(x:Bs×Bool)(o:Bs):(JE x o).length=32:=by unfold JE;split<;>exact JY _
theorem lZ(xs:List (Nat×(Bs×Bool)))(q:Bs)(g:q.length=32):(xs.foldl (fun o (x:Nat×(Bs×Bool))=>JE x.2 o) q).length=32:=by
 rcases eJ xs with rfl|⟨ys,y,rfl⟩
 · exact g
 · rw [im,RM];exact lH _ _
theorem qY(s:Bs):BB prog 205 #[.string (str s)] [] (.bool (decide (s.length=32))):=by
 refine Se func205 ntmps205 [0] ?_;intro u R;refine A2<|AF Y<|B7 Y<|Zv (Da HM Y)<|Zv (Bg (n:=32) Y Y)<|AM Y<|AO rfl results205 Y (by exact ⟨by rw [Be],rfl⟩)
theorem pW(s:Bs):BB prog 204 #[.string (str s)] [] (.bool (Jd s)):=by
 refine Se func204 ntmps204 [0] ?_;intro u R;refine A2<|AF Y<|B7 Y<|Xr [_] Y call205 Y rfl (qY s)<|Zv (Bp Y)<|AM Y<|AO rfl results204 Y (by exact ⟨by unfold Jd;rw [decide_not],rfl⟩)
variable{M:List AR}{ls:List Bs}
theorem eT(hv:DU M v ls)(hn:ls.length<=1000000000):CJ prog 245 #[v,.func (.func 204) #[] #[]] [M] (fun r H'=>∃k:Int,r=I4 k/\decide (0<=k)=ls.any Jd/\H'=[M]):=by
 have U:=mL;obtain ⟨p,cap,rfl,W,K⟩:=hv;refine Se func245 ntmps245 [0,1] ?_;intro u R;refine A2<|AF Y<|C0 Y<|Zv (AJ DB Y)<|Zm Y<|A6<|AQ<|Zb [8,0,1,7] ?_;refine Av (e0:=[(8,_)]) (fun m e H=>∃(i:Nat),m=ls.length -i/\(i<=ls.length/\(ls.take i).any Jd=false)/\e=[(8,I4 (i:Int))]/\H=[]) (by exact ⟨0,V,⟨CD _,V⟩,V,V⟩) Wp ?_;rintro _ _ _ ⟨i,rfl,⟨O,y⟩,rfl,rfl⟩;refine A2<|Zv (Ak Y Y)<|A6<|Zq<|Ad Y (fun G=>?_) (fun G=>?_);·
  obtain ⟨x,hx⟩:∃x,ls[i]?=some x:=⟨_,Bk G⟩;obtain ⟨g,off,cur,T,zz,rfl,I,E⟩:=K i x hx;refine B3<|Zq<|AQ<|B7 Y<|AF Y<|A2<|Sk 3 V ?_;refine BN (BO DB F2 Y Y A0)<|Cj (cs:=[(g,.cells cur T zz)]) (by simp [I]) (BZ HG Y E) V rfl<|Xr [_] Y call204 Y V (pW x)<|A6<|Af Y (fun z=>?_) (fun z=>?_);·
   refine B7 Y<|AM Y<|AX<|Zt<|Zt<|AX<|Zt<|AO rfl results245 Y (by exact ⟨(i:Int),rfl,by rw [jH _ ls i x hx z];exact Cp A0,rfl⟩)
  refine AB<|A8<|Zx<|GP Y Y Y<|DH (e:=[(8,_)]) (h:=by exact ⟨i+1,rfl,⟨by omega,by rw [WF _ ls i x hx,y];exact z⟩,rfl,rfl⟩)
 have J:i=ls.length:=by omega
 subst J;rw [HJ]at y;refine Az<|Zt<|Zt<|AU<|BT<|AM Y<|AO rfl results245 Y (by exact ⟨-1,rfl,by rw [y];rfl,rfl⟩)
theorem UT(hv:DU M v ls)(hn:ls.length<=1000000000):BB prog 206 #[v,.func (.func 204) #[] #[]] [M] (.bool (ls.any Jd)):=by
 refine Se func206 ntmps206 [0,1] ?_;intro u R;refine A2<|AF Y<|A2<|Sk 2 V<|Zc [_,_] Y call245 Y V (eT hv hn) ?_;rintro _ _ ⟨_,⟨k,rfl,g,rfl⟩,rfl⟩;refine Zv (Fa Y Y)<|AM Y<|AO rfl results206 Y (by exact ⟨by rw [<-g],rfl⟩)
theorem si(hv:DU M v ls)(hn:ls.length<=1000000000):BB prog 172 #[v] [M] (.bool (!(ls.any Jd))):=by
 refine Se func172 ntmps172 [0] ?_;intro u R;refine A2<|AF Y<|A2<|AF Y<|A2<|Sk 2 V<|Xr [_,_] Y call206 Y V (UT hv hn)<|Zv (CR Y)<|AM Y<|AO V results172 Y (by exact ⟨V,V⟩)
theorem jO(p:C1)(cap:Nat):BB prog 173 #[.slice p 0 cap] [] (.tuple #[.string (str []),.slice none 0 0,.bool false]):=by
 refine Se func173 ntmps173 [0] ?_;intro u R;refine A2<|Sk 2 V<|AF Y<|C0 Y<|Zv (AJ DB Y)<|Zv (Bg (n:=0) Y Y)<|A6<|Ad Y (fun g=>?_) (fun g=>?_);·
  refine A2<|Sk 2 V<|AM Y<|Zt<|iL V results173 Y Y Y (by exact ⟨V,V⟩)
 exfalso;omega
theorem jN{p:C1}{cap:Nat}(hv:DU M (.slice p ls.length cap) ls)(k:Nat)(x:Bs)(I:ls.length=k+1)(hx:ls[k]?=some x):BB prog 173 #[.slice p ls.length cap] [M] (.tuple #[.string (str x),.slice p k cap,.bool true]):=by
 have K:=mL;obtain ⟨O,z,e,J,G⟩:=hv;injection e with e1 e2 e3
 subst e1 e3;rw [I]at J⊢;obtain ⟨g,off,cur,T,zz,rfl,y,m⟩:=G k x hx;refine Se func173 ntmps173 [0] ?_;intro u R;refine A2<|Sk 2 V<|AF Y<|C0 Y<|Zv (AJ DB Y)<|Zv (Bg (n:=0) Y Y)<|A6<|Ad Y (fun E=>by omega)<|fun E=>B3<|B7 Y<|Zv (AJ DB Y)<|Yb (n:=1) Y Y<|CT Y<|Au (n:=10) (0::0::3::7::0::0::48::15::255::511::[]) 0 AG AG V<|A1 0 V (AA Y)<|A1 1 V (AA Y)<|A1 2 V (BO DB F2 Y Y A0)<|CX (b:=g) (x:= .cells cur T zz) (D':=15) 3 V rfl V (by simp [y]) (BZ HG Y m) ?_;refine A1 4 V (AA Y)<|A1 5 V (AA Y)<|A1 6 V (Bb DB F2 Y Y A0)<|A1 7 V (Aq Y)<|A1 8 V (Aq Y)<|A1 9 V (Aq Y)<|Am<|Zn [2,3,4] ?_;refine Zx<|AC<|iL V results173 Y Y Y (by exact ⟨V,V⟩)
def xE(pf:List Bs)(k:Nat):Bs:=if k=0 then []else pf.getD (k -1) []
def zZ(p:C1)(k cap:Nat):A3:=if k=0 then .slice none 0 0 else .slice p (k -1) cap
theorem nK{p:C1}{cap:Nat}{pf:List Bs}(hv:DU M (.slice p pf.length cap) pf)(k:Nat)(m:k<=pf.length):BB prog 173 #[.slice p k cap] [M] (.tuple #[.string (str (xE pf k)),zZ p k cap,.bool (decide (0<k))]):=by
 rcases k with _|k
 · exact Mw (jO p cap)
 · have hx:(pf.take (k+1))[k]?=some (pf.getD k []):=by
    rw [I3,B2 A0,Nd,Bk A0];rfl
   have g:(pf.take (k+1)).length=k+1:=by rw [CI];omega
   have h:=hv.take (k+1) m;have h2:=jN (ls:=pf.take (k+1)) (p:=p) (cap:=cap) (by rw [g];exact h) k _ g hx
   rw [g]at h2;exact h2
theorem eH(x:Bs)(f:Bool)(o:Bs)(hx:x.length<=1000000000)(z:o.length<=1000000000)(g:An)(y:Nat×Nat):BB prog 175 #[.agg #[.string (str x),.bool f],.string (str o)] [[(1,.cells (Dj.map CP).toArray g y)]] (.string (str (JE (x,f) o))):=by
 refine Se func175 ntmps175 [0,1] ?_;intro u R;refine A2<|Ze (Bx #[_,_])<|AE fun E=>CT Y<|A2<|Zh 1 kq V rfl DP Y<|Zl Fc Y<|A6<|Af Y (fun m=>?_) (fun m=>?_);·
  refine A2<|Zh 0 kq rfl rfl F2 Y<|Zl HG Y<|Zm Y<|Xr [_,_] Y call167 Y rfl (NM x o hx z g y)<|AM Y<|Zt<|AO rfl results175 Y (by exact ⟨by rw [yO m],rfl⟩)
 refine B3<|B7 Y<|Zh 0 kq rfl rfl F2 Y<|Zl HG Y<|Xr [_,_] Y call167 Y rfl (NM o x z hx g y)<|AM Y<|AO rfl results175 Y (by exact ⟨by rw [yP m],rfl⟩)
theorem Ub(p:C1)(n c:Nat):CJ prog 174 #[.slice p n c] [] (fun r H'=>∃b,r= .func (.func 207) #[] #[I5 b]/\H'=[[(b,.cells #[.slice p n c] 218 (0,0))]]):=by
 refine Se func174 ntmps174 [0] ?_;intro u R;refine A2<|Ze (Bx #[_])<|AE fun b=>AF Y<|A2<|Zv (CV (vs:=[]) (us:=[_]) Y Y)<|AM Y<|AO V results174 Y (by exact ⟨_,V,V⟩)
theorem Uc{ls:List (Bs×Bool)}(hv:tQ M v ls)(b:Nat)(hn:ls.length<=1000000000000):
 LU prog 207 #[I5 b] [[(b,.cells #[v] 218 (0,0))]] (fun s=>∀c∈M,c∈s) (fun x=>#[I4 ((x.1:Nat):Int),.agg #[EF x.2.1,.bool x.2.2]]) (bwd ls):=by
 have ax:=mL;obtain ⟨p,cap,rfl,hl,hg⟩:=hv;intro l J hA hy s y;refine Se func207 ntmps207 [0,1] ?_;intro u R;refine A2<|Zl isAgg218 Y ?_;refine Zv (AJ kx Y)<|BN (GI Y Y (IntWalk.i64_in _ A0))<|AF Y<|AQ<|Zb [3,0,1] ?_;refine Av (e0:=[(3,_)]) (fun m e H=>∃(k:Nat) (s:List AR),m=0+k/\(k<=ls.length/\J ((bwd ls).take (ls.length -k)) s)/\e=[(3,I4 ((k:Int) -1))]/\H=[[(b,.cells #[.slice p ls.length cap] 218 (0,0))],s]) (by exact ⟨ls.length,s,rfl,⟨B4 _,by rw [Tr,Hh];exact y⟩,rfl,rfl⟩) Wp ?_;rintro _ _ _ ⟨k,s,rfl,⟨hk,y⟩,rfl,rfl⟩;refine C0 Y<|Zv (Fa Y Y)<|A6<|Ad Y (fun U=>?_) (fun U=>?_);·
  obtain ⟨m,rfl⟩:∃m,k=m+1:=⟨k -1,by omega⟩;rw [show(((m+1:Nat):Int) -1)=((m:Nat):Int) by omega];obtain ⟨X,I⟩:∃X,ls[m]?=some X:=⟨_,Bk A0⟩;have z:=fU I
  obtain ⟨g,o,cur,T,zz,rfl,hm,E⟩:=hg m X I
  (obtain ⟨af,G⟩:=E)
  have W:=hy _ _ _ s (Rs z) y;refine B3<|Zq<|AQ<|A2<|Sk 2 V<|Zl isAgg218 Y ?_;refine Zm Y<|BN (A9 kx sizeOf222 Y Y A0)<|Cj (cs:=[(g,.cells cur T zz)]) (by simp [hA _ s y _ hm]) (A7 (cs:=#[_,_]) isAgg222 sizeOf222 Y A0 G) V rfl ?_;refine Ze (OZ (vs:=[_,_]) Y Y (W) Wp) ?_;rintro _ _ ⟨_,⟨s',rfl,rfl,K⟩,rfl⟩;refine Zv (CR Y)<|A6<|Af Y (fun Z=>by cases Z)<|fun Z=>AB<|A8<|Zx<|Zg<|Zm Y<|BN (GI Y Y (IntWalk.i64_in _ A0))<|AN Y<|DH (e:=[(3,_)]) (h:=by exact ⟨m,s',rfl,⟨by omega,by rw [show ls.length -m=ls.length -(m+1)+1 by omega,Bt z];exact K⟩,rfl,rfl⟩)
 have O:k=0:=by omega
 subst O;rw [SM,Hx (by rw [XW];exact B4 _)]at y;refine Az<|Zt<|Zt<|AU<|Gn V results207 (by exact ⟨s,V,y⟩)
theorem Xq{pf:List Bs}(hv:DU M v pf)(hn:pf.length<=1000000)(root s:Bs)(hs:s.length<=140737488354000)(n i:Nat)(hi:i<n)(hb:n<=1000000)(Tg:An)(zg:Nat×Nat):
 BB prog 125 #[.string (str root),I4 (n:Int),I4 (i:Int),.string (str s),v] [[(1,.cells (Dj.map CP).toArray Tg zg)],M] (.bool (NT root n i s pf)):=by
 have p8:=mL;obtain ⟨p,cap,rfl,hl,hg⟩:=id hv;refine GM func125 V ntmps125 V ?_;intro u R;refine Zb [0,1,2,3,4] ?_;refine A2<|AF Y<|C0 Y<|Zv (Ak (n:=0) Y Y)<|Zm Y<|AZ (t:=21) Y V (fun h1=>by omega)<|fun h1=>Sk 2 V<|Yg (El Y Y)<|Sk 2 V ?_;refine AZ (t:=26) Y V (fun h2=>by omega)<|fun h2=>Zf Y Y<|Xr [_] Y call172 Y V (si hv A0) ?_;refine Yg (CR Y)<|H3 Y Y<|Z0<|Zn [0,1,2,3,4,30] ?_;refine Zx<|Af Y (fun ha=>?_) (fun ha=>?_);·
  have J:pf.any Jd=true:=by simpa using ha
  refine A2<|AM Y<|Zt<|TM rfl (YA results125 Y) (by exact ⟨by unfold NT;rw [J];rfl,rfl⟩)
 have J:pf.any Jd=false:=by simpa using ha
 have cO:∀x∈pf,x.length=32:=fun x hx=>by have h:=mS.1 J x hx;simpa [Jd]using h
 refine AB<|BT<|CT Y<|AQ<|Bi<|Zb [1,2,4,11,0,3] ?_;refine Av (e0:=[(1,_),(2,_),(4,_),(11,_)]) (fun m e H=>∃(G X k:Nat) (g:List (Bs×Bool)) (vw:A3) (sw:List AR),m=0+G/\(k<=pf.length/\X<G/\G<=n/\Nw s n i pf.reverse=(Nw s G X (pf.take k).reverse).map (fun v=>g.foldr JE v)/\BS 2 222 vw g.length (Qj g) sw/\g.length+k=pf.length/\(∀x∈g,x.1.length=32))/\e=[(1,I4 (G:Int)),(2,I4 (X:Int)),(4,.slice p k cap),(11,vw)]/\H=[sw]) (by exact ⟨n,i,pf.length,[],.slice none 0 0,[],rfl,⟨B4 _,hi,B4 _,by rw [HJ];simp,BX 2 _,by simp,by simp⟩,rfl,rfl⟩) Wp ?_;rintro _ _ _ ⟨G,X,k,g,vw,sw,rfl,⟨hk,mR,p9,z,bn,pg,U⟩,rfl,rfl⟩;obtain ⟨qw,cw,rfl⟩:=bn.form;refine C0 Y<|Zv (CW (n:=1) Y Y)<|A6<|Ad Y (fun gy=>?_) (fun gy=>?_);·
  have h9:2<=G:=by omega
  have o8:=He h9;have o9:=GZ G
  have oq:=vK h9;refine B3<|AQ<|B7 Y<|Xr [_] Y call173 Y V (nK hv k hk) ?_;refine Sk 6 V<|AF Y<|C0 Y<|Zv (Bp Y)<|Z0<|Zn [0,1,2,3,11,12,13,40] ?_;refine Zx<|Ad Y (fun ht=>?_) (fun ht=>?_);·
   have gm:k=0:=by omega
   subst gm;rw [Hh,List.reverse_nil,gL h9]at z;refine A2<|AM Y<|Zt<|AX<|Zt<|AX<|Zt<|TM rfl (YA results125 Y) (by exact ⟨by unfold NT;rw [z,J];rfl,rfl⟩)
  obtain ⟨k,rfl⟩:∃m,k=m+1:=⟨k -1,by omega⟩;obtain ⟨Z,O⟩:∃x,pf[k]?=some x:=⟨_,Bk A0⟩;have gq:xE pf (k+1)=Z:=by show pf.getD k []=Z;rw [Nd,O];rfl
  have cu:=cO Z (Fm O);have W:∀f:Bool,∀y∈g++[(Z,f)],y.1.length=32:=fun f y hy=>by rcases GS.1 hy with hy|hy;exact U y hy;rw [HA]at hy;rw [hy];exact cu
  rw [gq];refine B3<|B7 Y<|AF Y<|B7 Y<|Xr [_] Y call143 Y V (Vn G h9 A0) ?_;refine AF Y<|A2<|Sk 4 V<|Zv (El Y Y)<|Zv (BK (vs:=[(0,_),(1,_)]) (cs:=#[_,_]) Y (AY (pl:=#[(0,1),(1,1)]) zeroValue222 kq (fun _=>by kernel_rfl) V))<|Ze (Ah (vs:=[_]) (cs:=[_,_]) kx sizeOf222 zeroValue222 Y V rfl V rfl V)<|AE fun b1=>Ze (Dw (by_:=24) (sz:=2) (news:=[_,_]) kx (V:Tryz.prog.info? 222=some Tryz.t222) V rfl V rfl Y bn Y Wo Wh B5 V ar AH A0 A0) ?_;rintro _ _ ⟨pq,K,rfl⟩;obtain ⟨lv,l9,rfl⟩:=K.form;refine AN Y<|Zn [0,1,2,3,4,11,15] ?_;refine BT<|Sk 2 V<|Zv (El Y Y)<|A6<|Ad Y (fun ax=>?_) (fun ax=>?_);·
   have af:decide (Bw G<=X)=true:=Cp ax;refine Zg<|Sk 2 V<|Yb Y Y<|Sk 2 V<|Yb Y Y<|Za Y<|AN Y<|A8<|DH (e:=[(1,_),(2,_),(4,_),(11,_)]) (h:=by exact ⟨G -Bw G,X -Bw G,k,g++[(Z,true)],_,_,rfl,⟨by omega,by omega,by omega,by rw [z,SX O,Nv h9 A0,Xm],BJ K C4 (by rw [Ru];exact congrArg (fun b=>Qj g++[EF Z,.bool b]) af),by rw [C7];simp;omega,W true⟩,rfl,rfl⟩)
  have af:decide (Bw G<=X)=false:=CC ax;refine Zg<|Zm Y<|AN Y<|A8<|DH (e:=[(1,_),(2,_),(4,_),(11,_)]) (h:=by exact ⟨Bw G,X,k,g++[(Z,false)],_,_,rfl,⟨by omega,by omega,by omega,by rw [z,SX O,Pq h9 A0,Xm],BJ K C4 (by rw [Ru];exact congrArg (fun b=>Qj g++[EF Z,.bool b]) af),by rw [C7];simp;omega,W false⟩,rfl,rfl⟩)
 refine Az<|Zt<|Zt<|AU<|Zx<|B7 Y<|Xr [_] Y call166 Y V (Vo s hs Tg zg) ?_;refine Ze (Al N1 #[_])<|AE fun ob=>Xe (Zs F2 Y Y V (hc:=by exact (V:_=(#[EF (M9 s)]:As)))) ?_;refine A6<|C0 Y<|Zc [_] Y call174 Y V (Ub _ _ _) ?_;rintro _ _ ⟨_,⟨bb,rfl,rfl⟩,rfl⟩;refine A6<|AQ<|Zb [0,4,16,65] ?_;refine XZ (H0:=_) (R:=_) (I:=(fun pre H=>H=[[(ob,.cells #[EF (pre.foldl (fun o (x:Nat×(Bs×Bool))=>JE x.2 o) (M9 s))] 9 (0,0))],sw,[(1,.cells (Dj.map CP).toArray Tg zg)]])) (E:=fun x e Hn=>∃bx,e=[(18,I5 bx),(67,.agg #[EF x.2.1,.bool x.2.2]),(66,I4 ((x.1:Nat):Int))]/\Hn=[[(bx,.cells #[EF x.2.1,.bool x.2.2] 222 (0,0))]]) V Y call207 (Uc (ls:=g) (bP bn A0) bb A0) (fun pre H1 c d h=>by subst h;intro x hx;simp [hx]) Y V Wp (V) ?ha_7 ?hbd_7 ?hk_7
 case ha_7=>
  intro _ x _ _;refine Zg<|Ze (Al zeroValue222 #[_,_])<|AE fun bx=>Xe (Ao sizeOf222 Y Y (by simp [EF,Value.oneCell']) Wu (by exact (rfl:_=(#[EF x.2.1,.bool x.2.2]:As))) DO Wn (by exact Aw _)) ?_;refine Z0<|pu (e:=[(18,_),(67,_),(66,_)]) (Hn:=[[(_,_)]]) ?_;exact ⟨_,V,V⟩
 case hbd_7=>
  intro l pre x kz u e9 l8 H1 R1 kv hI d9;obtain ⟨bx,rfl,rfl⟩:=d9;subst hI;refine AQ<|Zg<|Zo Wh (Pa #[_,_] isAgg222 sizeOf222 Y) ?_;refine Zl HG Y ?_;refine Xr [_,_] Y call175 Y rfl (eH x.2.1 x.2.2 _ (by rw [U _ (jB (QT kv))];omega) (by rw [lZ _ _ (qQ s)];omega) Tg zg) ?_;refine Xe (Zs F2 Y Y V) ?_;refine Z0<|A8<|Mh rfl (by rw [RM])
 intro D1 H2 ek;subst ek;refine Zn [0,4,16] ?_;refine A8<|Zx<|B7 Y<|Zv (AJ DB Y)<|Zv (Bg (n:=0) Y Y)<|Zm Y<|AZ (t:=74) Y V (fun hz=>?_) (fun hz=>?_);·
  have bf:G<=1:=by omega
  subst hz;rw [WS bf,B2 C4]at z;refine Yl HG Y ?_;refine Zf Y Y<|Yg (L9 Y Y)<|HR Y Y<|AM Y<|LA rfl (YA results125 Y) Wo (by exact ⟨by unfold NT;rw [J,z,lg];exact congrArg Value.bool (uN _ _),rfl⟩)
 have bf:G<=1:=by omega
 rw [WS bf,Ax (by intro e;have e2:(pf.take k).reverse.length=0:=(by rw [e];rfl);rw [eR,CI]at e2;omega)]at z;refine Sk 4 rfl<|AM Y<|LA rfl (YA results125 Y) Wo (by exact ⟨by unfold NT;rw [J,z];rfl,rfl⟩)
def Im(r:AV):Bs:=Cw [r.t,r.k]++Cw [r.v.a,r.v.b,r.v.c]
variable{r:AV}
theorem Ow(h:r.ok):(∀n∈[r.t,r.k],-4611686018427387903<=n/\n<=4611686018427387903)/\(∀n∈[r.v.a,r.v.b,r.v.c],-4611686018427387903<=n/\n<=4611686018427387903):=by
 obtain ⟨⟨g,h2,m⟩,y,z⟩:=h;unfold inV at g h2 m;constructor
 · intro n hn
   simp only [H4,PJ,R0]at hn;rcases hn with rfl|rfl<;>omega
 · intro n hn
   simp only [H4,PJ,R0]at hn;rcases hn with rfl|rfl|rfl<;>omega
theorem OO(h:r.ok):(Im r).length<=45:=by
 have g:=De _ (Ow h).1;have h2:=De _ (Ow h).2
 unfold Im;rw [C7];simp only [GB,My]at g h2;omega
theorem qd(a b:Int):Ip #[I4 a,I4 b] 0 [a,b]:=by
 intro i n h;rcases i with _|_|i
 · simp at h;subst h;rfl
 · simp at h;subst h;rfl
 · simp at h
theorem vZ(r:AV):Ip r.Ax3 2 [r.v.a,r.v.b,r.v.c]:=by
 intro i n h;rcases i with _|_|_|i
 · simp at h;subst h;rfl
 · simp at h;subst h;rfl
 · simp at h;subst h;rfl
 · simp at h
theorem Uu(r:AV)(y:r.ok):BB prog 124 #[.agg r.Ax3] [] (.tuple #[.string (str (Im r)),I4 0]):=by
 have hn:=Ow y;have g:=De _ hn.1
 have m:=De _ hn.2;simp only [GB,My]at g m;refine Se func124 ntmps124 [0] ?_;intro u R;refine A2<|Ze (Bx #[_,_,_,_,_])<|AE fun z=>Za Y<|CT Y<|A2<|Zo Wh (Pa #[_,_,_,_,_] C5 AW Y)<|Xr [_] Y call165 Y V (Rz r) ?_;rw [Cp y];refine Zv (CR Y)<|A6<|Af Y (fun hv=>by cases hv)<|fun hv=>B3<|Zq<|Au (n:=12) (0::1::0::4::15::31::0::64::255::511::1023::2047::[]) 304 AG AG V<|A1 0 V (AL (off:=0) F1 V rfl A4 Y)<|B6 1 V A5 Y<|A1 2 V (AL (off:=1) F1 V rfl A4 Y)<|B6 3 V A5 Y<|A1 6 V (AL (off:=2) F1 V rfl Dg Y)<|A1 7 V (Fv HS A4 Y)<|Zz (l:=[4])<|C6 [false,false] [] V rfl (Ah (vs:=[_,_]) (cs:=[_,_]) HF A4 K1 Y V rfl V rfl V) ?_ (fun _ _ h=>h.elim) Ar;rintro _ _ ⟨gb,rfl,rfl⟩;refine CA<|Yw 5 255 V (Zu [_] Y call171 Y V (SC gb 0 2 _ _ _ [r.t,r.k] (qd r.t r.k) C4 hn.1))<|DA<|Yw 8 511 V (Zu [_] Y call171 Y V (SC z 2 3 _ _ _ [r.v.a,r.v.b,r.v.c] (vZ r) C4 hn.2))<|DA<|A1 9 rfl (EH Y Y (by rw [Be,Be];omega))<|A1 10 rfl (Aq Y)<|A1 11 rfl (Aq Y)<|Am<|Zn [2,3] ?_;refine Zx<|AC<|Cn rfl results124 Y Y (by exact ⟨by rw [Ec];rfl,rfl⟩)
def BF(rs:List AV)(t:Int)(c:Nat):List AV:=D8 rs t c (-1000000000) 1000000000
variable{rs:List AV}
theorem GX(g:BP rs)(t:Int)(c:Nat):(BF rs t c).length<=rs.length:=by
 unfold BF;rw [(Ex rs t c _ _).length_eq];exact On _ _
theorem I7{t:Int}{c:Nat}{lo hi:Int}(h:r∈D8 rs t c lo hi):r∈rs:=(PA.1 ((Ex rs t c lo hi).mem_iff.1 h)).1
def Km(l:List AV):List Bs:=l.map Im
theorem Ea(l:List AV):(Km l).length=l.length:=C2 ..
theorem aN{l:List AV}{x:AV}(h:l[i]?=some x):(Km (l.take (i+1))).map EF=(Km (l.take i)).map EF++[.string (str (Im x))]:=by
 rw [Bt h];unfold Km;rw [HD,HD];rfl
def tV(l:List AV)(vr ve:A3)(sr se:List AR):Prop:=BS 5 91 vr (l).length (Aa (l)) sr/\BS 1 9 ve l.length ((Km l).map EF) se
theorem TE(v:A3)(p:Int)(rs:List AV)(s:List AR)(hv:RO v p rs s)(hs:BP rs)(hn:rs.length<=2000)(W:∀r∈rs,r.ok)(t:Int)(c:Nat)(hc:c<=3):
 CJ prog 80 #[v,I4 t,I4 (c:Int)] [s] (fun r H'=>∃vr I sr G,r= .agg #[vr,I]/\tV (BF rs t c) vr I sr G/\H'=[sr,G,s]):=by
 have cu:=mL;have bn:=GX hs t c
 refine Se func80 ntmps80 [0,1,2] ?_;intro u R;refine A2<|Ze (Al hY #[_,_])<|AE fun qb=>A6<|A2<|Sk 3 V<|Zc [_,_,_,_,_] Y call35 Y V (Xz v p rs s hv t c (-1000000000) 1000000000 hc) ?_;rintro _ _ ⟨_,⟨sr,z,rfl⟩,rfl⟩;change BS 5 91 _ (BF rs t c).length (Aa (BF rs t c)) sr at z;obtain ⟨qr,cr,rfl⟩:=z.form;have O:=Ca z A0
 obtain ⟨p9,Z,e9,cO,hg⟩:=id O;injection e9 with e91 e92 e93
 subst e91 e93;refine Zv (BK (vs:=[(0,_)]) (cs:=#[_,_]) Y (AY (pl:=#[(0,1),(1,1)]) hY RW (fun _=>by kernel_rfl) V))<|Ze (Al hY #[_,_])<|AE fun ob=>Xe (Ao fR Y Y (by(simp [Value.oneCell',Value.cells];done)) Wu (by exact (rfl:_=(#[.slice qr (BF rs t c).length cr,.slice none 0 0]:As))) DO AH (by exact Aw _))<|A6<|Zq<|A2<|Zh 0 RW rfl rfl Cl Y<|Zl DQ Y<|Zv (AJ B0 Y)<|Zm Y<|A6<|AQ<|Bi<|Zb [20,6,7,18,19] ?_;refine Av (e0:=[(20,_)]) (fun m e H=>∃(i:Nat) (I:A3) (G:List AR),m=(BF rs t c).length -i/\(i<=(BF rs t c).length/\BS 1 9 I i ((Km ((BF rs t c).take i)).map EF) G)/\e=[(20,I4 (i:Int))]/\H=[[(ob,.cells #[.slice qr (BF rs t c).length cr,I] 143 (0,0))],G]) (by exact ⟨0,.slice none 0 0,[],V,⟨CD _,BX 1 _⟩,V,V⟩) Wp ?_;rintro _ _ _ ⟨i,I,G,rfl,⟨hi,y⟩,rfl,rfl⟩;obtain ⟨qe,ce,rfl⟩:=y.form;refine A2<|Zv (Ak Y Y)<|A6<|Zq<|Ad Y (fun K=>?_) (fun K=>?_);·
  obtain ⟨x,hx⟩:∃x,(BF rs t c)[i]?=some x:=⟨_,Bk K⟩;obtain ⟨g,off,cur,T,zz,rfl,U,af,J⟩:=hg i x hx;have X:=W x (I7 (Fm hx))
  refine B3<|Zq<|AQ<|A2<|BN (A9 B0 AW Y Y A0)<|Cj (cs:=[(g,.cells cur T zz)]) (by simp [U]) (A7 (cs:=x.Ax3) C5 AW Y A0 J) V rfl<|Ze (Al DS #[_,_,_,_,_])<|AE fun xb=>Xe (Xw AW x.Ax3)<|A6<|A2<|Zo Wh (Pa #[_,_,_,_,_] C5 AW Y)<|Xr [_] Y call124 Y V (Uu x X)<|Sk 4 V<|AF Y<|Zg<|Zh 1 RW V rfl Hj Y<|Zl Iv Y<|Zm Y<|Ze (Ah (vs:=[_]) (cs:=[_]) DB F2 N1 Y V rfl V rfl V)<|AE fun b4=>Ze (Dw (by_:=16) (sz:=1) (news:=[_]) DB (V:Tryz.prog.info? 9=some Tryz.t9) V rfl V rfl Y y Y Wo Wh B5 V HH AH A0 A0) ?_;rintro _ _ ⟨d9,E,rfl⟩;obtain ⟨bf,ax,rfl⟩:=E.form;refine Zh 1 RW V rfl Hj Y<|Xe (Zs Hj Y Y V (hc:=by exact (V:_=(#[.slice _ (BF rs t c).length cr,_]:As))) (hi:=by(simp;done)))<|Z0<|Zn [6,7,18,19,20] ?_;refine A8<|Zx<|GP Y Y Y<|DH (e:=[(20,_)]) (h:=by exact ⟨i+1,_,_,rfl,⟨by omega,BJ E rfl (by rw [aN hx])⟩,rfl,rfl⟩)
 have ei:i=(BF rs t c).length:=by omega
 subst ei;rw [HJ]at y;refine Az<|Zt<|Zt<|AU<|BT<|Zo Wh (A7 (cs:=#[_,_]) isAgg143 fR Y BW B5)<|Xe (Ao fR Y Y (by(simp [Value.oneCell',Value.cells];done)) Wu (by exact (rfl:_=(#[.slice qr (BF rs t c).length cr,.slice qe _ ce]:As))) DO AH (by exact Aw _))<|A6<|AC<|Df rfl results80 Y Wh (Ai isAgg143 fR Wn (rfl)) (by exact ⟨.slice qr _ cr,.slice qe _ ce,sr,G,rfl,⟨z,y⟩,rfl⟩)
theorem Yp(v:A3)(p:Int)(rs:List AV)(s:List AR)(hv:RO v p rs s)(E:BP rs)(hn:rs.length<=2000)(z:∀r∈rs,r.ok)(t:Int)(c:Nat)(hc:c<=3):
 CJ prog 80 #[v,I4 t,I4 (c:Int)] [s] (fun r H'=>∃y m sr g,r= .agg #[y,m]/\tV (BF rs t c) y m sr g/\H'=[sr++g,s]):=by
 refine E8 (TE v p rs s hv E hn z t c hc) V ?_;rintro r H' ⟨y,m,sr,g,rfl,h,rfl⟩;exact ⟨_,⟨y,m,sr,g,V,h,V⟩,by simp⟩
def tcs:List (Nat×Nat):=(List.range 4).flatMap fun t=>(List.range 4).map fun c=>(t,c)
theorem nJ:∀t,t<4->∀c,c<4->tcs[4*t+c]?=some (t,c):=by decide
def bH(rs:List AV)(x:Nat×Nat):Bs:=MG ((BF rs (x.1:Int) x.2).length:Int)++DW (Km (BF rs (x.1:Int) x.2))
def NU(rs:List AV):List Bs:=tcs.map (bH rs)
def Eu(rs:List AV):Bs:=DW (NU rs)
def sB(rs:List AV)(x:Nat×Nat)(vs:As)(sx:List AR):Prop:=∃vr ve sr se,vs=#[.agg #[vr,ve]]/\tV (BF rs (x.1:Int) x.2) vr ve sr se/\sx=sr++se
theorem Rb{l:List AV}(h:∀r∈l,r.ok):∀s∈Km l,s.length<=45:=by
 intro s m;obtain ⟨r,g,rfl⟩:=HX.1 m;exact OO (h r g)
theorem Rn(g:BP rs)(hn:rs.length<=2000)(x:Nat×Nat):(bH rs x).length<=41:=by
 have m:=GX g (x.1:Int) x.2;have h2:=H9 ((BF rs (x.1:Int) x.2).length:Int) A0 A0
 unfold bH;rw [C7,FP];omega
theorem Yn(q:C1):CJ prog 142 #[.pointer q] [] (fun r H'=>∃b,r= .func (.func 184) #[] #[I5 b]/\H'=[[(b,.cells #[.pointer q] 33 (0,0))]]):=by
 refine Se func142 ntmps142 [0] ?_;intro u R;refine A2<|Ze (Bx #[_])<|AE fun b=>AF Y<|A2<|Zv (CV (vs:=[]) (us:=[_]) Y Y)<|AM Y<|AO V results142 Y (by exact ⟨_,V,V⟩)
theorem Yo(v:A3)(p:Int)(rs:List AV)(s:List AR)(hv:RO v p rs s)(hs:BP rs)(hn:rs.length<=2000)(O:∀r∈rs,r.ok)(b:Nat):
 WM prog 184 #[I5 b] [[(b,.cells #[v] 33 (0,0))]] [s] (sB rs) tcs:=by
 have af:=mL;intro l J hy s0 hJ;refine Se func184 ntmps184 [0,1] ?_;intro u R;refine B7 Y<|A6<|AQ<|Zb [5,0,1] ?_;refine Av (e0:=[(5,_)]) (fun m e H=>∃(t:Nat) (s2:List AR),m=4 -t/\(t<=4/\J (tcs.take (4*t)) s2)/\e=[(5,I4 (t:Int))]/\H=[s2]) (by exact ⟨0,s0,V,⟨by omega,hJ⟩,V,V⟩) Wp ?_;rintro _ _ _ ⟨t,s2,rfl,⟨ht,g⟩,rfl,rfl⟩;refine A2<|Zv (Ak (n:=4) Y Y)<|A6<|Zq<|Ad Y (fun E=>?_) (fun E=>?_);·
  refine B3<|Zq<|AQ<|B7 Y<|AF Y<|B7 Y<|A6<|AQ<|Zb [8,0,1,3,5] ?_;refine Av (e0:=[(8,_)]) (fun m e H=>∃(c:Nat) (G:List AR),m=4 -c/\(c<=4/\J (tcs.take (4*t+c)) G)/\e=[(8,I4 (c:Int))]/\H=[G]) (by exact ⟨0,s2,V,⟨by omega,g⟩,V,V⟩) Wp ?_;rintro _ _ _ ⟨c,G,rfl,⟨hc,y⟩,rfl,rfl⟩;refine A2<|Zv (Ak (n:=4) Y Y)<|A6<|Zq<|Ad Y (fun z=>?_) (fun z=>?_);·
   have hx:=nJ t E c z;refine B3<|Zq<|AQ<|B7 Y<|AF Y<|B7 Y<|Zl isAgg33 Y<|Sk 2 V<|Zc [_,_,_] Y call80 Y V (Yp v p rs s hv hs hn O (t:Int) c A0) ?_;rintro _ _ ⟨_,⟨vr,Z,sr,X,rfl,hO,rfl⟩,rfl⟩;have U:=hy _ _ _ G #[.agg #[vr,Z]] (sr++X) (Rs hx) y ⟨vr,Z,sr,X,rfl,hO,rfl⟩
   refine Ze (OZ (vs:=[_]) Y Y (U) Wp) ?_;rintro _ _ ⟨_,⟨s4,rfl,rfl,K⟩,rfl⟩;refine Zv (CR Y)<|A6<|Af Y (fun W=>by cases W)<|fun W=>AB<|A8<|Zx<|GP Y Y Y<|DH (e:=[(8,_)]) (h:=by exact ⟨c+1,s4,rfl,⟨by omega,by rw [<-cF,Bt hx];exact K⟩,rfl,rfl⟩)
  refine Az<|Zt<|Zt<|AU<|A8<|Zx<|GP Y Y Y<|DH (e:=[(5,_)]) (h:=by exact ⟨t+1,G,rfl,⟨by omega,by rw [Nat.mul_add,MA];have I:c=4:=A0;subst I;exact y⟩,rfl,rfl⟩)
 have I:t=4:=by omega
 subst I;refine Az<|Zt<|Zt<|AU<|Gn V results184 (by exact ⟨s2,V,g⟩)
theorem Un(v:A3)(p:Int)(rs:List AV)(s:List AR)(hv:RO v p rs s)(hs:BP rs)(hn:rs.length<=2000)(K:∀r∈rs,r.ok)(U:An)(Z:Nat×Nat):
 CJ prog 87 #[v] [[(1,.cells (Dj.map CP).toArray U Z)],s] (fun r H'=>∃so,BS 1 9 r 16 ((NU rs).map EF) so/\H'=[so,[(1,.cells (Dj.map CP).toArray U Z)],s]):=by
 have kz:=mL;obtain ⟨mR,lv,gy,gm,l9,rfl,cO⟩:=id hv;refine GM func87 V ntmps87 V ?_;intro u R;refine Zb [0] ?_;refine A2<|AF Y<|A2<|Ze (Al dd #[_])<|AE fun ob=>A6<|C0 Y<|Zc [_] Y call142 Y V (Yn _) ?_;rintro _ _ ⟨_,⟨bb,rfl,rfl⟩,rfl⟩;refine A6<|AQ<|Zb [3,8] ?_;refine Bi<|Xa (H0:=_) (R:=_) (I:=(fun pre H=>∃X s2,H=[[(ob,.cells #[X] 47 (0,0))],s2,[(1,.cells (Dj.map CP).toArray U Z)]]/\BS 1 9 X pre.length ((pre.map (bH rs)).map EF) s2)) (E:=fun x vs sx e Hn=>∃W G z,vs=#[.agg #[G,z]]/\e=[(4,I5 W),(9,.agg #[G,z])]/\Hn=[[(W,.cells #[G,z] 143 (0,0))]]) rfl Y call184 (Yo _ p rs s hv hs hn K bb) (fun x vs sx h=>by obtain ⟨G,z,sr,se,rfl,_⟩:=h;rfl) rfl Wp (⟨_,[],rfl,BX 1 _⟩) ?ha_2 ?hbd_2 ?hk_2
 case ha_2=>
  intro _ x vs sx _ _ g;obtain ⟨G,z,sr,se,rfl,J,rfl⟩:=g;refine Zg<|Ze (Al hY #[_,_])<|AE fun W=>Xe (Ao fR Y Y (by obtain ⟨q1,c1,rfl⟩:=J.1.form;obtain ⟨q2,c2,rfl⟩:=J.2.form;simp [Value.oneCell',Value.cells]) Wu (by exact (rfl:_=(#[G,z]:As))) DO AH (by exact Aw _)) ?_;refine Z0<|pu (e:=[(4,_),(9,_)]) (Hn:=[[(_,_)]]) ?_;exact ⟨_,_,_,V,V,V⟩
 case hbd_2=>
  intro l pre x d9 u vs sx e9 ek H1 R1 cu hI g af;obtain ⟨G,z,sr,se,rfl,J,rfl⟩:=g;obtain ⟨W,oq,o9,O,rfl,rfl⟩:=af;simp at O;obtain ⟨rfl,rfl⟩:=O;obtain ⟨X,s2,rfl,m⟩:=hI;obtain ⟨qe,ce,rfl⟩:=J.2.form;obtain ⟨q2,c2,rfl⟩:=m.form;have bn:=congrArg List.length cu
  rw [C7,GB,show tcs.length=16 from rfl]at bn;have l8:=GX hs (x.1:Int) x.2
  have bf:DU (sr++se) (.slice qe (BF rs (x.1:Int) x.2).length ce) (Km (BF rs (x.1:Int) x.2)):=(Ev (BJ J.2 (Ea _).symm rfl) (by rw [Ea];omega)).mono (fun c h=>G2 _ h);refine AQ<|A2<|Zh 1 RW V rfl Hj Y<|Zl Iv Y ?_;refine Zv (AJ DB Y)<|Xr [_] Y call123 Y V (MW _ A0 A0) ?_;refine Sk 4 V<|AF Y<|Au (n:=9) (0::0::0::4::12::30::62::127::255::[]) 464 AG AG V<|B6 0 V Iv Y ?_;refine A1 1 V (AA Y)<|A1 2 V (AL (off:=1) RW V rfl Hj Y)<|B6 3 V Iv Y ?_;refine Yz 4 12 31 [3,0] [false,true] [(0,(_,_))] rfl Y rfl rfl rfl rfl (Zu [_] Y call122 Y rfl (Kr bf (by rw [Ea];omega) (fun s h=>by have:=Rb (fun r hr=>K r (I7 hr)) s h;omega) U Z))<|DA<|CA<|A1 5 rfl (EH Y Y (by rw [Be,Be,FP];have:=H9 ((BF rs (x.1:Int) x.2).length:Int) A0 A0;omega))<|Yz 6 62 127 [0] [true] [(0,(_,_))] rfl Y rfl rfl rfl rfl (Ah (vs:=[_]) (cs:=[_]) DB F2 N1 Y rfl rfl rfl rfl rfl)<|AE fun b3=>CA<|Yw 7 255 V (Dw (by_:=16) (sz:=1) (news:=[_]) DB (V:Tryz.prog.info? 9=some Tryz.t9) V rfl V rfl Y m Y Wo Wh B5 V HH AH A0 A0) ?_;rintro _ _ ⟨o8,y,rfl⟩;obtain ⟨kv,gq,rfl⟩:=y.form;refine Yw 8 511 V (Zs Hj Y Y V (hi:=by(simp;done)))<|DA<|Am<|Zn [] ?_;refine A8<|Mh V (by exact ⟨_,_,V,BJ y C4 (by simp [bH,EF,Ec])⟩)
 intro D1 H2 ax;obtain ⟨X,s2,rfl,m⟩:=ax;refine Zn [3] ?_;refine A8<|BT<|Zl Iv Y ?_;refine AM Y<|LA V (YA results87 Y) Wo (by exact ⟨s2,m,V⟩)
def Cg(pd:AV->Bool)(l:List AV):Nat:=(l.takeWhile (fun x=>!pd x)).length
theorem Fz(g:AV->Bool)(l:List AV):Cg g l<=l.length:=(List.takeWhile_sublist _).length_le
theorem Tn{g:AV->Bool}:∀{l:List AV} {i:Nat} {x:AV},l[i]?=some x->g x=true->(∀(j:Nat) (y:AV),j<i->l[j]?=some y->g y=false)->Cg g l=i
 |[],i,x,hx,_,_=>by simp at hx
 |z::l,0,x,hx,hp,_=>by
  simp only [Z3,ZD]at hx;subst hx;simp [Cg,hp]
 |z::l,i+1,x,hx,hp,hno=>by
  simp only [bj]at hx;have h0:=hno 0 z A0 rfl
  have m:=Tn (l:=l) hx hp (fun j y E hy=>hno (j+1) y A0 hy);unfold Cg at m⊢;rw [cC,B2 (by simp [h0]),GB,m]
theorem OI{m:AV->Bool}:∀{l:List AV},(∀(j:Nat) (y:AV),l[j]?=some y->m y=false)->Cg m l=l.length
 |[],_=>rfl
 |z::l,hno=>by
  have h0:=hno 0 z rfl;have g:=OI (l:=l) (fun j y hy=>hno (j+1) y hy)
  unfold Cg at g⊢;rw [cC,B2 (by simp [h0]),GB,g,GB]
def RJ(n len:Nat):Int:=if n<len then(n:Int)else-1
def geV(c:Nat)(lo:Int)(r:AV):Bool:=decide (lo<=Dz r c)
def gtV(c:Nat)(hi:Int)(r:AV):Bool:=decide (hi<Dz r c)
theorem zu(v lo:Int)(g:Nat):BB prog 85 #[I4 v,I5 g] [[(g,.cells #[I4 lo] 3 (0,0))]] (.bool (decide (lo<=v))):=by
 refine Se func85 ntmps85 [0,1] ?_;intro u R;refine A2<|AF Y<|B7 Y<|Zl A5 Y<|Zv (Fa Y Y)<|AM Y<|AO V results85 Y (by exact ⟨V,V⟩)
theorem rI(r:AV)(c:Nat)(hc:c<=3)(lo:Int)(y m g:Nat):BB prog 83 #[.agg r.Ax3,I5 y,I5 m] [[(y,.cells #[.func (.func 85) #[] #[I5 g]] 145 (0,0))],[(m,.cells #[I4 (c:Int)] 3 (0,0))],[(g,.cells #[I4 lo] 3 (0,0))]] (.bool (geV c lo r)):=by
 refine Se func83 ntmps83 [0,1,2] ?_;intro u R;refine A2<|Ze (Bx #[_,_,_,_,_])<|AE fun z=>CT Y<|Au (n:=6) (0::0::0::6::15::31::[]) 24 AG AG V<|B6 0 V isAgg145 Y ?_;refine Fo 1 V Wh (Pa #[_,_,_,_,_] C5 AW Y) ?_;refine B6 2 V A5 Y ?_;refine Yz 3 6 15 [2,1,0] [false,false,true] [(0,(_,_))] V Y V rfl V rfl (Zu [_,_] Y Sf Y V (Ry r c hc))<|DA<|CA<|Yw 4 31 V (Zu [_] Y call85 Y V (zu (Dz r c) lo g))<|DA<|A1 5 V (Aq Y)<|Am<|Zx<|AC<|AO V results83 Y (by exact ⟨V,V⟩)
variable{L:List AV}
theorem ra(hv:CZ M v L)(hn:L.length<=1000000)(c:Nat)(hc:c<=3)(lo:Int)(J I K:Nat):BB prog 82 #[v,.func (.func 83) #[] #[I5 J,I5 I]] [[(J,.cells #[.func (.func 85) #[] #[I5 K]] 145 (0,0))],[(I,.cells #[I4 (c:Int)] 3 (0,0))],[(K,.cells #[I4 lo] 3 (0,0))],M] (I4 (RJ (Cg (geV c lo) L) L.length)):=by
 have af:=mL;obtain ⟨p,cap,rfl,hl,Z⟩:=hv;refine Se func82 ntmps82 [0,1] ?_;intro u R;refine A2<|AF Y<|C0 Y<|Zv (AJ B0 Y)<|Zm Y<|A6<|AQ<|Zb [8,0,1,7] ?_;refine Av (e0:=[(8,_)]) (fun m e H=>∃(i:Nat),m=L.length -i/\(i<=L.length/\∀(j:Nat) (y:AV),j<i->L[j]?=some y->geV c lo y=false)/\e=[(8,I4 (i:Int))]/\H=[]) (by exact ⟨0,V,⟨CD _,by intro j y hj;omega⟩,V,V⟩) Wp ?_;rintro _ _ _ ⟨i,rfl,⟨hi,E⟩,rfl,rfl⟩;refine A2<|Zv (Ak Y Y)<|A6<|Zq<|Ad Y (fun z=>?_) (fun z=>?_);·
  obtain ⟨x,hx⟩:∃x,L[i]?=some x:=⟨_,Bk z⟩;obtain ⟨g,off,cur,T,zz,rfl,U,X,G⟩:=Z i x hx;refine B3<|Zq<|AQ<|B7 Y<|AF Y<|A2<|Sk 3 V ?_;refine BN (A9 B0 AW Y Y A0)<|Cj (cs:=[(g,.cells cur T zz)]) (by simp [U]) (A7 (cs:=x.Ax3) C5 AW Y A0 G) V rfl<|Xr [_] Y call83 Y V (rI x c hc lo J I K)<|A6<|Af Y (fun W=>?_) (fun W=>?_);·
   refine B7 Y<|AM Y<|AX<|Zt<|Zt<|AX<|Zt<|AO rfl fS Y (by exact ⟨by rw [Tn hx W E];unfold RJ;rw [B2 z],rfl⟩)
  refine AB<|A8<|Zx<|GP Y Y Y<|HN (by exact ⟨i+1,rfl,⟨by omega,fun j y hj hy=>by rcases FA j i with h9|h9;exact E j y h9 hy;obtain rfl:j=i:=A0;rw [hx]at hy;injection hy with hy;rw [<-hy];exact W⟩,rfl,rfl⟩)
 have O:Cg (geV c lo) L=L.length:=OI (fun j y hy=>E j y (by have:=(D3.1 hy).1;omega) hy);refine Az<|Zt<|Zt<|AU<|BT<|AM Y<|AO rfl fS Y (by exact ⟨by rw [O];unfold RJ;rw [Ax A0],rfl⟩)
theorem oR{I U:A3}(hv:CZ M I L)(hn:L.length<=1000000)(c:Nat)(hc:c<=3)(lo:Int)(G m y:Nat):BB prog 81 #[.func (.func 85) #[] #[I5 y],I5 G,I5 m] [[(G,.cells #[I,U] 143 (0,0))],[(m,.cells #[I4 (c:Int)] 3 (0,0))],[(y,.cells #[I4 lo] 3 (0,0))],M] (I4 ((Cg (geV c lo) L:Nat):Int)):=by
 have O:=mL;obtain ⟨p,cap,rfl,X,W⟩:=id hv;have K:=Fz (geV c lo) L
 refine Se func81 ntmps81 [0,1,2] ?_;intro u R;refine A2<|Ze (Bx #[_])<|AE fun J=>AF Y<|A2<|Zh 0 RW V rfl Cl Y<|Zl DQ Y<|Zv (CV (vs:=[]) (us:=[_,_]) Y Y)<|Xr [_,_] Y call82 Y V (ra hv hn c hc lo J m y)<|AF Y<|C0 Y<|Zv (Dq Y Y)<|A6<|Ad Y (fun g=>?_) (fun g=>?_);·
  have z:Cg (geV c lo) L=L.length:=by
   rcases FA (Cg (geV c lo) L) L.length with h9|h9
   · unfold RJ at g;rw [B2 h9]at g;omega
   · omega
  refine A2<|Zh 0 RW V rfl Cl Y<|Zl DQ Y<|Zv (AJ B0 Y)<|AN Y<|Zn [4] ?_;refine Zx<|AC<|Zt<|AO rfl results81 Y (by exact ⟨by rw [z],rfl⟩)
 have E:Cg (geV c lo) L<L.length:=by
  rcases FA (Cg (geV c lo) L) L.length with h9|h9
  · exact h9
  · unfold RJ at g;rw [Ax A0]at g;omega
 refine B3<|B7 Y<|AM Y<|AO rfl results81 Y (by exact ⟨by unfold RJ;rw [B2 E],rfl⟩)
theorem zt(v lo:Int)(g:Nat):BB prog 86 #[I4 v,I5 g] [[(g,.cells #[I4 lo] 3 (0,0))]] (.bool (decide (lo<v))):=by
 refine Se func86 ntmps86 [0,1] ?_;intro u R;refine A2<|AF Y<|B7 Y<|Zl A5 Y<|Zv (EE Y Y)<|AM Y<|AO V results86 Y (by exact ⟨V,V⟩)
theorem rB(r:AV)(c:Nat)(hc:c<=3)(lo:Int)(y m g:Nat):BB prog 83 #[.agg r.Ax3,I5 y,I5 m] [[(y,.cells #[.func (.func 86) #[] #[I5 g]] 145 (0,0))],[(m,.cells #[I4 (c:Int)] 3 (0,0))],[(g,.cells #[I4 lo] 3 (0,0))]] (.bool (gtV c lo r)):=by
 refine Se func83 ntmps83 [0,1,2] ?_;intro u R;refine A2<|Ze (Bx #[_,_,_,_,_])<|AE fun z=>CT Y<|Au (n:=6) (0::0::0::6::15::31::[]) 24 AG AG V<|B6 0 V isAgg145 Y ?_;refine Fo 1 V Wh (Pa #[_,_,_,_,_] C5 AW Y) ?_;refine B6 2 V A5 Y ?_;refine Yz 3 6 15 [2,1,0] [false,false,true] [(0,(_,_))] V Y V rfl V rfl (Zu [_,_] Y Sf Y V (Ry r c hc))<|DA<|CA<|Yw 4 31 V (Zu [_] Y call86 Y V (zt (Dz r c) lo g))<|DA<|A1 5 V (Aq Y)<|Am<|Zx<|AC<|AO V results83 Y (by exact ⟨V,V⟩)
theorem rS(hv:CZ M v L)(hn:L.length<=1000000)(c:Nat)(hc:c<=3)(lo:Int)(J I K:Nat):BB prog 82 #[v,.func (.func 83) #[] #[I5 J,I5 I]] [[(J,.cells #[.func (.func 86) #[] #[I5 K]] 145 (0,0))],[(I,.cells #[I4 (c:Int)] 3 (0,0))],[(K,.cells #[I4 lo] 3 (0,0))],M] (I4 (RJ (Cg (gtV c lo) L) L.length)):=by
 have af:=mL;obtain ⟨p,cap,rfl,hl,Z⟩:=hv;refine Se func82 ntmps82 [0,1] ?_;intro u R;refine A2<|AF Y<|C0 Y<|Zv (AJ B0 Y)<|Zm Y<|A6<|AQ<|Zb [8,0,1,7] ?_;refine Av (e0:=[(8,_)]) (fun m e H=>∃(i:Nat),m=L.length -i/\(i<=L.length/\∀(j:Nat) (y:AV),j<i->L[j]?=some y->gtV c lo y=false)/\e=[(8,I4 (i:Int))]/\H=[]) (by exact ⟨0,V,⟨CD _,by intro j y hj;omega⟩,V,V⟩) Wp ?_;rintro _ _ _ ⟨i,rfl,⟨hi,E⟩,rfl,rfl⟩;refine A2<|Zv (Ak Y Y)<|A6<|Zq<|Ad Y (fun z=>?_) (fun z=>?_);·
  obtain ⟨x,hx⟩:∃x,L[i]?=some x:=⟨_,Bk z⟩;obtain ⟨g,off,cur,T,zz,rfl,U,X,G⟩:=Z i x hx;refine B3<|Zq<|AQ<|B7 Y<|AF Y<|A2<|Sk 3 V ?_;refine BN (A9 B0 AW Y Y A0)<|Cj (cs:=[(g,.cells cur T zz)]) (by simp [U]) (A7 (cs:=x.Ax3) C5 AW Y A0 G) V rfl<|Xr [_] Y call83 Y V (rB x c hc lo J I K)<|A6<|Af Y (fun W=>?_) (fun W=>?_);·
   refine B7 Y<|AM Y<|AX<|Zt<|Zt<|AX<|Zt<|AO rfl fS Y (by exact ⟨by rw [Tn hx W E];unfold RJ;rw [B2 z],rfl⟩)
  refine AB<|A8<|Zx<|GP Y Y Y<|HN (by exact ⟨i+1,rfl,⟨by omega,fun j y hj hy=>by rcases FA j i with h9|h9;exact E j y h9 hy;obtain rfl:j=i:=A0;rw [hx]at hy;injection hy with hy;rw [<-hy];exact W⟩,rfl,rfl⟩)
 have O:Cg (gtV c lo) L=L.length:=OI (fun j y hy=>E j y (by have:=(D3.1 hy).1;omega) hy);refine Az<|Zt<|Zt<|AU<|BT<|AM Y<|AO rfl fS Y (by exact ⟨by rw [O];unfold RJ;rw [Ax A0],rfl⟩)
theorem zy{I U:A3}(hv:CZ M I L)(hn:L.length<=1000000)(c:Nat)(hc:c<=3)(lo:Int)(G m y:Nat):BB prog 81 #[.func (.func 86) #[] #[I5 y],I5 G,I5 m] [[(G,.cells #[I,U] 143 (0,0))],[(m,.cells #[I4 (c:Int)] 3 (0,0))],[(y,.cells #[I4 lo] 3 (0,0))],M] (I4 ((Cg (gtV c lo) L:Nat):Int)):=by
 have O:=mL;obtain ⟨p,cap,rfl,X,W⟩:=id hv;have K:=Fz (gtV c lo) L
 refine Se func81 ntmps81 [0,1,2] ?_;intro u R;refine A2<|Ze (Bx #[_])<|AE fun J=>AF Y<|A2<|Zh 0 RW V rfl Cl Y<|Zl DQ Y<|Zv (CV (vs:=[]) (us:=[_,_]) Y Y)<|Xr [_,_] Y call82 Y V (rS hv hn c hc lo J m y)<|AF Y<|C0 Y<|Zv (Dq Y Y)<|A6<|Ad Y (fun g=>?_) (fun g=>?_);·
  have z:Cg (gtV c lo) L=L.length:=by
   rcases FA (Cg (gtV c lo) L) L.length with h9|h9
   · unfold RJ at g;rw [B2 h9]at g;omega
   · omega
  refine A2<|Zh 0 RW V rfl Cl Y<|Zl DQ Y<|Zv (AJ B0 Y)<|AN Y<|Zn [4] ?_;refine Zx<|AC<|Zt<|AO rfl results81 Y (by exact ⟨by rw [z],rfl⟩)
 have E:Cg (gtV c lo) L<L.length:=by
  rcases FA (Cg (gtV c lo) L) L.length with h9|h9
  · exact h9
  · unfold RJ at g;rw [Ax A0]at g;omega
 refine B3<|B7 Y<|AM Y<|AO rfl results81 Y (by exact ⟨by unfold RJ;rw [B2 E],rfl⟩)
theorem R3(t c:Int):BB prog 79 #[I4 t,I4 c] [] (.bool (decide ((0<=t/\t<4)/\0<=c/\c<4))):=by
 refine Se func79 ntmps79 [0,1] ?_;intro u R;refine A2<|AF Y<|B7 Y<|Zv (Fa Y Y)<|Zm Y<|AZ (t:=7) Y V (fun g=>?_) (fun g=>?_);focus
  refine Zf Y Y<|Yg (Dq Y Y)<|Sk 2 V ?_;refine AZ (t:=11) Y V (fun h2=>?_) (fun h2=>?_);focus
   refine Zf Y Y<|Yg (Fa Y Y)<|Sk 2 V ?_;refine AZ (t:=15) Y V (fun m=>?_) (fun m=>?_);refine Zf Y Y<|Yg (Dq Y Y)<|HR Y Y<|AN Y<|Zn [4] ?_;refine Zx<|AC<|AO V results79 Y (by exact ⟨by exact congrArg Value.bool (decide_eq_decide.2 A0),V⟩)
  rotate_left
  focus
   refine Sk 4 V ?_
 rotate_left 2
 focus
  refine Sk 8 V ?_
 all_goals
  refine Sk 3 V<|AN Y<|Zn [4] ?_;refine Zx<|AC<|AO V results79 Y (by exact ⟨by exact congrArg Value.bool (CC A0).symm,V⟩)
structure RP where
 tb:Int
 cl:Int
 lo:Int
 hi:Int
 ct:Int
 fi:Int
 rows:List AV
 paths:List (List Bs)
 roots:List Bs
deriving DecidableEq
def CE(L:List AV)(c:Nat)(lo:Int):Nat:=Cg (geV c lo) L -1
def toT(L:List AV)(c:Nat)(hi:Int):Nat:=min (Cg (gtV c hi) L+1) L.length
def JN(L:List AV)(f k:Nat):List (List Bs):=(List.range k).map fun j=>Dx (Km L) (f+j)
def EC(rs:List AV)(t c:Nat)(lo hi:Int):RP:=
 ⟨t,c,lo,hi,(BF rs (t:Int) c).length,(CE (BF rs (t:Int) c) c lo:Nat),((BF rs (t:Int) c).drop (CE (BF rs (t:Int) c) c lo)).take (toT (BF rs (t:Int) c) c hi -CE (BF rs (t:Int) c) c lo),
   JN (BF rs (t:Int) c) (CE (BF rs (t:Int) c) c lo) (toT (BF rs (t:Int) c) c hi -CE (BF rs (t:Int) c) c lo),NU rs⟩
def FV(M:List AR)(pvs:List A3)(ps:List (List Bs)):Prop:=pvs.length=ps.length/\∀(i:Nat) (v:A3) (l:List Bs),pvs[i]?=some v->ps[i]?=some l->DU M v l
theorem VT(M:List AR):FV M [] []:=⟨rfl,by intro i v l h;simp at h⟩
theorem FV.snoc{M':List AR}{g:List A3}{ps:List (List Bs)}(h:FV M g ps){l:List Bs}(hv:DU M' v l)(z:∀c∈M,c∈M'):FV M' (g++[v]) (ps++[l]):=by
 obtain ⟨y,h2⟩:=h;refine ⟨by rw [C7,C7,y];rfl,?_⟩;intro i w k hi m;rcases FA i g.length with h9|h9
 · rw [ff h9]at hi
   rw [ff A0]at m;exact (h2 i w k hi m).mono z
 · rw [Ss h9]at hi
   rw [Ss A0]at m;rw [y]at hi;cases h:i -ps.length with
   |zero=>rw [h]at hi m;simp at hi m;rw [<-hi,<-m];exact hv
   |succ n=>rw [h]at hi;simp at hi
theorem Qv(L:List AV)(f k:Nat):JN L f (k+1)=JN L f k++[Dx (Km L) (f+k)]:=by unfold JN;rw [gA,HD];rfl
theorem Lg(L:List AV)(f k:Nat):(JN L f k).length=k:=by unfold JN;rw [C2,ft]
theorem iG{e:An}{xs:List A3}{s:List AR}(h:BS 1 e v n xs s):n<=maxLen:=by
 obtain ⟨_,⟨_,h0,_⟩|⟨_,_,_,_,_,_,g,h2,_⟩⟩:=h;· omega
 · omega
theorem Fq(rs:List AV):(NU rs).length=16:=by unfold NU;rw [C2];rfl
set_option maxHeartbeats 4000000 in
theorem dH(v:A3)(p:Int)(rs:List AV)(s:List AR)(hv:RO v p rs s)(hs:BP rs)(hn:rs.length<=2000)(Z:∀r∈rs,r.ok)(t c:Nat)(ht:t<=3)(hc:c<=3)(lo hi:Int)(qw:lo<=hi)(Tg:An)(zg:Nat×Nat):
 CJ prog 33 #[v,I4 (t:Int),I4 (c:Int),I4 lo,I4 hi] [[(1,.cells (Dj.map CP).toArray Tg zg)],s] (fun r H'=>∃vr vp vt I sp z U W,r= .tuple #[.agg #[I4 (t:Int),I4 (c:Int),I4 lo,I4 hi,I4 (((BF rs (t:Int) c).length:Nat):Int),I4 (((CE (BF rs (t:Int) c) c lo):Nat):Int),vr,vp,vt],I4 0]/\BS 5 91 vr (((BF rs (t:Int) c).drop (CE (BF rs (t:Int) c) c lo)).take ((toT (BF rs (t:Int) c) c hi) -(CE (BF rs (t:Int) c) c lo))).length (Aa (((BF rs (t:Int) c).drop (CE (BF rs (t:Int) c) c lo)).take ((toT (BF rs (t:Int) c) c hi) -(CE (BF rs (t:Int) c) c lo)))) I/\BS 1 47 vp ((toT (BF rs (t:Int) c) c hi) -(CE (BF rs (t:Int) c) c lo)) z sp/\FV U z (JN (BF rs (t:Int) c) (CE (BF rs (t:Int) c) c lo) ((toT (BF rs (t:Int) c) c hi) -(CE (BF rs (t:Int) c) c lo)))/\BS 1 9 vt 16 ((NU rs).map EF) W/\H'=[I,sp,U,W,[(1,.cells (Dj.map CP).toArray Tg zg)],s]):=by
 have qz:=mL;obtain ⟨tT,sO,pq,p8,sw,rfl,o9⟩:=id hv;have qy:=GX hs (t:Int) c
 have q9:=Fz (geV c lo) (BF rs (t:Int) c);have qa:=Fz (gtV c hi) (BF rs (t:Int) c)
 have qo:(CE (BF rs (t:Int) c) c lo)=Cg (geV c lo) (BF rs (t:Int) c) -1:=rfl;have sj:(toT (BF rs (t:Int) c) c hi)=min (Cg (gtV c hi) (BF rs (t:Int) c)+1) (BF rs (t:Int) c).length:=rfl
 refine Se func33 ntmps33 [0,1,2,3,4] ?_;intro u R;refine A2<|Ze (Bx #[_])<|AE fun bc=>Ze (Bx #[_])<|AE fun bl=>Ze (Bx #[_])<|AE fun bh=>Ze (Al N0 #[_,_,_,_,_,_,_,_,_])<|AE fun qb=>CT Y<|AQ<|B7 Y<|Zv (G9 hQ Y Y)<|AF Y<|Af Y (fun h1=>by cases h1)<|fun h1=>B7 Y<|Zl A5 Y ?_;refine Xr [_,_] Y call79 Y V (R3 (t:Int) (c:Int)) ?_;rw [Cp (show((0<=(t:Int)/\(t:Int)<4)/\0<=(c:Int)/\(c:Int)<4) by omega)];refine Zv (CR Y)<|Zm Y<|Ae (t:=29) Y V (fun h2=>by cases h2)<|fun h2=>Yl A5 Y ?_;refine Yl A5 Y ?_;refine Yg (EE Y Y)<|H3 Y Y<|AN Y<|Zn [0,1,7,8,9,10,24] ?_;refine Zx<|Ad Y (fun h3=>by omega)<|fun h3=>AB<|A8<|BT<|Sk 2 V<|Zl A5 Y ?_;refine Zc [_,_,_] Y call80 Y V (TE _ p rs s hv hs hn Z (t:Int) c hc) ?_;rintro _ _ ⟨_,⟨vr,ve,sr,se,rfl,hO,rfl⟩,rfl⟩;obtain ⟨qr,cr,rfl⟩:=hO.1.form;obtain ⟨qe,ce,rfl⟩:=hO.2.form;have ax:=Ca hO.1 A0
 have kz:DU se (.slice qe (BF rs (t:Int) c).length ce) (Km (BF rs (t:Int) c)):=Ev (BJ hO.2 (Ea _).symm rfl) (by rw [Ea];omega);obtain ⟨p9,o8,e9,r9,hg⟩:=id ax;injection e9 with e91 e92 e93
 subst e91 e93;refine Ze (Al hY #[_,_])<|AE fun ob=>Xe (Xw fR #[.slice qr (BF rs (t:Int) c).length cr,.slice qe (BF rs (t:Int) c).length ce]) ?_;refine A6<|A2<|Zv (CV (vs:=[]) (us:=[_,_]) Y Y)<|AF Y<|B7 Y<|Zv (CV (vs:=[]) (us:=[_]) Y Y)<|Xr [_] Y call81 Y V (oR ax A0 c hc lo ob bc bl) ?_
 (refine BN (GI Y Y (IntWalk.i64_in _ ?_)) ?_;(focus (omega)))
 refine Zv (TB Y Y)<|AN Y<|Zn [0,1,7,8,9,10,12,13,14] ?_;refine Zx<|Zq<|Au (n:=9) (0::0::3::7::0::16::48::127::255::[]) 4 AG AG V<|A1 0 V (AA Y)<|A1 1 V (CV (vs:=[]) (us:=[_]) Y Y)<|A1 4 V (AL (off:=0) RW V rfl Cl Y)<|B6 5 V DQ Y ?_;refine A1 6 V (AJ B0 Y)<|Zz (l:=[2])<|C6 [true] [(5,(_,_))] V rfl (Zu [_] Y call81 Y V (zy ax A0 c hc hi ob bc bh)) ?_ (fun _ _ h=>h.elim) Ar;rintro _ _ ⟨rfl,rfl⟩;refine CA<|A1 3 V (Ce (n:=1) Y Y A0)<|A1 7 V (L8 Y Y)<|A1 8 V (Aq Y)<|Am<|Zx<|Zb [0,1,7,8,9,10,12,14,15] ?_;refine C9 (e0:=[(0,_),(1,_),(7,_),(8,_),(9,_)]) (H0:=[]) (fun e H=>∃(pb:Nat) (qt:C1) (ct:Nat) (W:List AR),(BS 1 9 (.slice qt 16 ct) 16 ((NU rs).map EF) W)/\e=[(16,I5 pb)]/\H=[[(pb,.cells #[I4 (t:Int),I4 (c:Int),I4 lo,I4 hi,I4 (((BF rs (t:Int) c).length:Nat):Int),I4 (((CE (BF rs (t:Int) c) c lo):Nat):Int),.slice none 0 0,.slice none 0 0,.slice qt 16 ct] 49 (0,0))],W]) Wp ?hx_2 ?hy_2
 case hx_2=>
  refine Au (n:=13) (0::0::0::0::0::16::48::0::0::256::1023::0::4095::[]) 6656 AG AG V<|A1 0 V (AA Y)<|B6 1 V A5 Y ?_;refine B6 2 V A5 Y ?_;refine B6 3 V A5 Y ?_;refine A1 4 V (AL (off:=0) RW V rfl Cl Y)<|B6 5 V DQ Y ?_;refine A1 6 V (AJ B0 Y)<|A1 7 V (AA Y)<|A1 8 V (AA Y)<|Zz (l:=[9,11])<|C6 [true,true,true,true] [(5,(_,_)),(3,(_,_)),(2,(_,_)),(1,(_,_))] V rfl (Zw [_] Y call87 Y V (Un _ p rs s hv hs hn Z Tg zg)) ?hk_3 DC ?hl_3
  case' hk_3=>
   rintro _ _ ⟨_,⟨W,J,rfl⟩,rfl⟩;refine ⟨Zk (Zk (Zk (Zk (Ab)))),?_⟩;obtain ⟨qt,ct,rfl⟩:=J.form;refine A1 10 V (BK (vs:=[(0,I4 (t:Int)),(1,I4 (c:Int)),(2,I4 lo),(3,I4 hi),(4,I4 (((BF rs (t:Int) c).length:Nat):Int)),(5,I4 (((CE (BF rs (t:Int) c) c lo):Nat):Int)),(8,.slice qt 16 ct)]) (cs:=#[I4 (t:Int),I4 (c:Int),I4 lo,I4 hi,I4 (((BF rs (t:Int) c).length:Nat):Int),I4 (((CE (BF rs (t:Int) c) c lo):Nat):Int),.slice none 0 0,.slice none 0 0,.slice qt 16 ct]) Y (AY (pl:=#[(0,1),(1,1),(2,1),(3,1),(4,1),(5,1),(6,1),(7,1),(8,1)]) N0 Bm (fun _=>by kernel_rfl) AG))<|Yz 11 0 4095 [5,3,2,1] [true,true,true,true] [(5,(_,_)),(3,(_,_)),(2,(_,_)),(1,(_,_))] V Y V rfl V rfl (Al N0 #[_,_,_,_,_,_,_,_,_]) ?_;rintro _ _ ⟨pb,rfl,rfl⟩;refine ⟨Zk (Zk (Zk (Zk (Ab)))),?_⟩
  case' hl_3=>
   refine C6 [true,true,true,true] [(5,(_,_)),(3,(_,_)),(2,(_,_)),(1,(_,_))] V rfl (Al N0 #[_,_,_,_,_,_,_,_,_]) ?hk_7 (fun _ _ h=>h.elim) ?hl_7
   case' hk_7=>
    rintro _ _ ⟨pb,rfl,rfl⟩;refine CA<|Zz (l:=[9])<|C6 [true,true,true,true] [(5,(_,_)),(3,(_,_)),(2,(_,_)),(1,(_,_))] V rfl (Zw [_] Y call87 Y V (Un _ p rs s hv hs hn Z Tg zg)) ?hk_8 DC ?hl_8
    case' hk_8=>
     rintro _ _ ⟨_,⟨W,J,rfl⟩,rfl⟩;refine ⟨Zk (Zk (Zk (Zk (Ab)))),?_⟩;obtain ⟨qt,ct,rfl⟩:=J.form;refine A1 10 V (BK (vs:=[(0,I4 (t:Int)),(1,I4 (c:Int)),(2,I4 lo),(3,I4 hi),(4,I4 (((BF rs (t:Int) c).length:Nat):Int)),(5,I4 (((CE (BF rs (t:Int) c) c lo):Nat):Int)),(8,.slice qt 16 ct)]) (cs:=#[I4 (t:Int),I4 (c:Int),I4 lo,I4 hi,I4 (((BF rs (t:Int) c).length:Nat):Int),I4 (((CE (BF rs (t:Int) c) c lo):Nat):Int),.slice none 0 0,.slice none 0 0,.slice qt 16 ct]) Y (AY (pl:=#[(0,1),(1,1),(2,1),(3,1),(4,1),(5,1),(6,1),(7,1),(8,1)]) N0 Bm (fun _=>by kernel_rfl) AG)) ?_
    case' hl_8=>
     exact Ar
   case' hl_7=>
    exact Ar
  all_goals
   refine Yw 12 8191 V (Xw DM #[I4 (t:Int),I4 (c:Int),I4 lo,I4 hi,I4 (((BF rs (t:Int) c).length:Nat):Int),I4 (((CE (BF rs (t:Int) c) c lo):Nat):Int),.slice none 0 0,.slice none 0 0,.slice qt 16 ct])<|DA<|Am<|HC (by exact ⟨pb,qt,ct,W,J,V,V⟩)
 rintro _ _ ⟨pb,qt,ct,W,J,rfl,rfl⟩;refine C0 Y<|AF Y<|AQ<|Bi<|Bi<|Bi<|Zb [17,10,12,15,16] ?_;refine Av (e0:=[(17,_)]) (fun m e H=>∃(k:Nat) (bn:A3) (I:List AR) (vp:A3) (sp:List AR) (z:List A3) (U:List AR),m=(toT (BF rs (t:Int) c) c hi) -(CE (BF rs (t:Int) c) c lo) -k/\(k<=(toT (BF rs (t:Int) c) c hi) -(CE (BF rs (t:Int) c) c lo)/\BS 5 91 bn k (Aa (((BF rs (t:Int) c).drop (CE (BF rs (t:Int) c) c lo)).take k)) I/\BS 1 47 vp k z sp/\FV U z (JN (BF rs (t:Int) c) (CE (BF rs (t:Int) c) c lo) k))/\e=[(17,I4 (((CE (BF rs (t:Int) c) c lo)+k:Nat):Int))]/\H=[[(pb,.cells #[I4 (t:Int),I4 (c:Int),I4 lo,I4 hi,I4 (((BF rs (t:Int) c).length:Nat):Int),I4 (((CE (BF rs (t:Int) c) c lo):Nat):Int),bn,vp,.slice qt 16 ct] 49 (0,0))],I,sp,U]) (by exact ⟨0,.slice none 0 0,[],.slice none 0 0,[],[],[],rfl,⟨CD _,by rw [Hh];exact BX 5 _,BX 1 _,VT _⟩,rfl,rfl⟩) Wp ?_;rintro _ _ _ ⟨k,bn,I,vp,sp,z,U,rfl,⟨hk,O,K,hP⟩,rfl,rfl⟩;obtain ⟨q2,c2,rfl⟩:=O.form;obtain ⟨q3,c3,rfl⟩:=K.form;refine Zq<|A2<|Sk 2 V<|Zv (Ak Y Y)<|A6<|Ad Y (fun l8=>?_) (fun l8=>?_);·
  obtain ⟨x,hx⟩:∃x,(BF rs (t:Int) c)[(CE (BF rs (t:Int) c) c lo)+k]?=some x:=⟨_,Bk A0⟩;obtain ⟨g,off,cur,T,zz,rfl,l9,oq,gm⟩:=hg _ x hx;have lv:((BF rs (t:Int) c).drop (CE (BF rs (t:Int) c) c lo))[k]?=some x:=by rw [Ly];exact hx
  refine B3<|Zq<|AQ<|A2<|Zh 1 RW V rfl Hj Y<|Zl Iv Y ?_;refine Zm Y<|Zc [_,_] Y call88 Y rfl (dJ kz (by rw [Ea];omega) (fun s h=>by have:=Rb (fun r hr=>Z r (I7 hr)) s h;omega) ((CE (BF rs (t:Int) c) c lo)+k) (by rw [Ea];omega) Tg zg) ?_;rintro _ _ ⟨_,⟨mR,G,rfl,E,rfl⟩,rfl⟩;have bf:(Dx (Km (BF rs (t:Int) c)) ((CE (BF rs (t:Int) c) c lo)+k)).length<=maxLen:=iG E
  have kv:=Ev E bf;have gy:=Qv (BF rs (t:Int) c) (CE (BF rs (t:Int) c) c lo) k▸hP.snoc (kv.mono (fun c h=>HE U h)) (fun c h=>G2 G h)
  obtain ⟨qx,cx,rfl⟩:=E.form;refine Sk 4 V<|AF Y<|ES (s1:=G) (s2:=U) Wo Wo ?_;refine Au (n:=18) (0::1::0::4::0::28::60::124::255::0::512::0::2048::8191::2047::32767::65535::131071::[]) 176512 AG AG V<|A1 0 V (AL (off:=6) Bm V rfl Cl Y)<|B6 1 V DQ Y ?_;refine A1 2 V (AL (off:=0) RW V rfl Cl Y)<|B6 3 V DQ Y ?_;refine A1 4 V (AA Y)<|A1 5 V (A9 B0 AW Y Y A0)<|CX (b:=g) (x:= .cells cur T zz) (D':=127) 6 V rfl V (by simp [l9]) (A7 (cs:=x.Ax3) C5 AW Y A0 gm) ?_;refine A1 9 V (AL (off:=7) Bm V rfl Mn Y)<|B6 10 V Q1 Y ?_;refine A1 11 V (AA Y)<|Zz (l:=[7,12])<|C6 [true,false,false,true] [(10,(_,_)),(1,(_,_))] V rfl (Ah (vs:=[_]) (cs:=[_,_,_,_,_]) B0 AW DS Y V rfl V rfl V) ?hk_12 (fun _ _ h=>h.elim) ?hl_12
  case' hk_12=>
   rintro _ _ ⟨X,rfl,rfl⟩;refine CA<|Zz (l:=[8,12])<|C6 [true,false] [(10,(_,_))] V rfl (BL (by_:=40) (sz:=5) B0 (V:Tryz.prog.info? 91=some Tryz.t91) V rfl V rfl Y (O) Y (D7 5 X 1 1 91 (0,0) [I4 x.t,I4 x.k,I4 x.v.a,I4 x.v.b,I4 x.v.c] V) Wo Wo HH A0 A0) ?hk_13 (fun _ _ h=>h.elim) ?hl_13
   case' hk_13=>
    rintro _ _ ⟨gq,y,rfl⟩;refine ⟨Zk (Ab),?_⟩;obtain ⟨cO,cu,rfl⟩:=y.form;refine A1 14 V (AL (off:=6) Bm V rfl Cl Y)<|Zz (l:=[12])<|C6 [true] [(10,(_,_))] V rfl (Ah (vs:=[_]) (cs:=[_]) LR Hj dd Y V rfl V rfl V) ?hk_14 (fun _ _ h=>h.elim) ?hl_14
    case' hk_14=>
     rintro _ _ ⟨d9,rfl,rfl⟩;refine CA<|Yz 13 8191 32767 [10] [false] [] V Y V rfl V rfl (Dw (by_:=24) (sz:=1) (news:=[_]) LR (V:Tryz.prog.info? 47=some Tryz.t47) V rfl V rfl Y K Y Wo Wh B5 V ar AH A0 A0) ?_
    case' hl_14=>
     exact Ar
   case' hl_13=>
    refine C6 [true,true] [(10,(_,_)),(1,(_,_))] V rfl (Ah (vs:=[_]) (cs:=[_]) LR Hj dd Y V rfl V rfl V) ?hk_19 (fun _ _ h=>h.elim) ?hl_19
    case' hk_19=>
     rintro _ _ ⟨d9,rfl,rfl⟩;refine CA<|Yz 8 255 8191 [10,1] [true,false] [(10,(_,_))] V Y V rfl V rfl (BL (by_:=40) (sz:=5) B0 (V:Tryz.prog.info? 91=some Tryz.t91) V rfl V rfl Y (O) Y (D7 5 X 1 1 91 (0,0) [I4 x.t,I4 x.k,I4 x.v.a,I4 x.v.b,I4 x.v.c] V) Wo Wo HH A0 A0) ?_;rintro _ _ ⟨gq,y,rfl⟩;refine ⟨Zk (Ab),?_⟩;obtain ⟨cO,cu,rfl⟩:=y.form;refine A1 14 V (AL (off:=6) Bm V rfl Cl Y)<|Zz (l:=[13])<|C6 [false] [] V rfl (Dw (by_:=24) (sz:=1) (news:=[_]) LR (V:Tryz.prog.info? 47=some Tryz.t47) V rfl V rfl Y K Y Wo Wh B5 V ar AH A0 A0) ?hk_21 (fun _ _ h=>h.elim) ?hl_21
     case' hl_21=>
      exact Ar
    case' hl_19=>
     exact Ar
  case' hl_12=>
   refine C6 [true,true,true,true] [(10,(_,_)),(6,(_,_)),(3,(_,_)),(1,(_,_))] V rfl (Ah (vs:=[_]) (cs:=[_]) LR Hj dd Y V rfl V rfl V) ?hk_25 (fun _ _ h=>h.elim) ?hl_25
   case' hk_25=>
    rintro _ _ ⟨d9,rfl,rfl⟩;refine ⟨Zk (Ii (by simp [*]) (Zk (Zk (Ab)))),?_⟩;refine Yz 7 124 7935 [10,6,3,1] [true,false,false,true] [(10,(_,_)),(1,(_,_))] V Y V rfl V rfl (Ah (vs:=[_]) (cs:=[_,_,_,_,_]) B0 AW DS Y V rfl V rfl V)<|AE fun X=>CA<|Yz 8 255 8191 [10,1] [true,false] [(10,(_,_))] V Y V rfl V rfl (BL (by_:=40) (sz:=5) B0 (V:Tryz.prog.info? 91=some Tryz.t91) V rfl V rfl Y (O) Y (D7 5 X 1 1 91 (0,0) [I4 x.t,I4 x.k,I4 x.v.a,I4 x.v.b,I4 x.v.c] V) Wo Wo HH A0 A0) ?_;rintro _ _ ⟨gq,y,rfl⟩;refine ⟨Zk (Ab),?_⟩;obtain ⟨cO,cu,rfl⟩:=y.form;refine A1 14 V (AL (off:=6) Bm V rfl Cl Y)<|Zz (l:=[13])<|C6 [false] [] V rfl (Dw (by_:=24) (sz:=1) (news:=[_]) LR (V:Tryz.prog.info? 47=some Tryz.t47) V rfl V rfl Y K Y Wo Wh B5 V ar AH A0 A0) ?hk_28 (fun _ _ h=>h.elim) ?hl_28
    case' hl_28=>
     exact Ar
   case' hl_25=>
    exact Ar
  all_goals
   rintro _ _ ⟨vo,af,rfl⟩;refine ⟨Ab,?_⟩;obtain ⟨pz,pg,rfl⟩:=af.form;refine Yw 15 65535 V (Zs Cl Y Y V (hc:=by exact (V:_=(#[I4 (t:Int),I4 (c:Int),I4 lo,I4 hi,I4 (((BF rs (t:Int) c).length:Nat):Int),I4 (((CE (BF rs (t:Int) c) c lo):Nat):Int),_,_,.slice qt 16 ct]:As))) (hi:=by(simp;done)))<|DA<|A1 16 V (AL (off:=7) Bm V rfl Mn Y)<|Zz (l:=[17])<|C6 [] [] V rfl (Zs Mn Y Y V (hc:=by exact (V:_=(#[I4 (t:Int),I4 (c:Int),I4 lo,I4 hi,I4 (((BF rs (t:Int) c).length:Nat):Int),I4 (((CE (BF rs (t:Int) c) c lo):Nat):Int),_,_,.slice qt 16 ct]:As))) (hi:=by(simp;done))) ?_ (fun _ _ h=>h.elim) Ar;rintro _ _ ⟨rfl,rfl⟩;refine CA<|Am<|Zn [10,12,15,16,17] ?_;refine A8<|Zx<|Zg<|Zm Y<|Ya (n:=1) Y Y<|AN Y<|DH (e:=[(17,_)]) (h:=by exact ⟨k+1,_,_,_,_,z++[_],G++U,rfl,⟨by omega,BJ y rfl (by rw [Bt lv,BR];rfl),BJ af rfl rfl,gy⟩,rfl,rfl⟩)
 have ek:k=(toT (BF rs (t:Int) c) c hi) -(CE (BF rs (t:Int) c) c lo):=by omega
 subst ek;refine Az<|Zt<|Zt<|AU<|BT<|Zo Wh (A7 (cs:=#[I4 (t:Int),I4 (c:Int),I4 lo,I4 hi,I4 (((BF rs (t:Int) c).length:Nat):Int),I4 (((CE (BF rs (t:Int) c) c lo):Nat):Int),.slice q2 _ c2,.slice q3 _ c3,.slice qt 16 ct]) It DM Y BW B5) ?_;refine Xe (Xw DM #[I4 (t:Int),I4 (c:Int),I4 lo,I4 hi,I4 (((BF rs (t:Int) c).length:Nat):Int),I4 (((CE (BF rs (t:Int) c) c lo):Nat):Int),.slice q2 _ c2,.slice q3 _ c3,.slice qt 16 ct]) ?_;refine AM Y<|Bo rfl results33 Y Wh (Ai It DM Wn (rfl)) Y (by exact ⟨_,_,_,I,sp,z,U,W,rfl,BJ O (by rw [CI,D4];omega) rfl,K,hP,J,rfl⟩)
end Go.Proofs.YtljkoipiekbijaaGreatDoor
