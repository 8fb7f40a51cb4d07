/- digest.Verify. -/
/- Rows encoded; the orders of a state, its summaries and its root. -/
/- All orders; the summaries; the root of a state. -/
import Derived.Test.YtkdgffcfmgmemaaGreatDoorEz
import Derived.Test.YtkdgffcfmgmemaaGreatDoorTr3
import Derived.Test.YtkdgffcfmgmemaaGreatDoorEx25
set_option linter.unusedVariables false
set_option linter.unusedSimpArgs false
namespace Go.Proofs.YtkdgffcfmgmemaaGreatDoor
open Go.Proofs.Tryz
open Go Go.RowKit Gw
set_option maxRecDepth 100000
attribute [local irreducible] Gw.At Gw.Nx Gw.Ops
def PH(s:Bs):Bool:=!decide (s.length=32)
theorem fK{α:Type}(p:α→Bool)(ls:List α)(i:Nat)(x:α)(hx:ls[i]?=some x):(ls.take (i+1)).any p=((ls.take i).any p||p x):=by rw [Bo hx,List.any_append];simp
theorem nX{α:Type}(p:α→Bool)(ls:List α)(i:Nat)(x:α)(hx:ls[i]?=some x)(h:p x=true):ls.any p=true:=zq.2 ⟨x,tV hx,h⟩
def Hw(x:Bs×Bool)(o:Bs):Bs:=if x.2 then GA x.1 o else GA o x.1
theorem pM{x:Bs}{f:Bool}{o:Bs}(h:f=true):Hw (x,f) o=GA x o:=if_pos h
theorem pO{x:Bs}{f:Bool}{o:Bs}(h:f=false):Hw (x,f) o=GA o x:=if_neg (by simp [h])
def Oc(l:List (Bs×Bool)):List Value:=l.flatMap (fun x=>[Dx x.1,.bool x.2])
theorem Po(l:List (Bs×Bool))(x:Bs×Bool):Oc (l++[x])=Oc l++[Dx x.1,.bool x.2]:=by unfold Oc;rw [vX];rfl
def Mm(s:Bs):Nat→Nat→List Bs→Option Bs
 |n,_,[]=>if n≤1 then some (M4 s)else none
 |n,i,x::rp=>if n≤1 then none else if i<Bq n then(Mm s (Bq n) i rp).map (fun v=>GA v x)else(Mm s (n -Bq n) (i -Bq n) rp).map (fun v=>GA x v)
def RO(root:Bs)(n i:Nat)(s:Bs)(pf:List Bs):Bool:=!(pf.any PH)&&decide (Mm s n i pf.reverse=some root)
theorem lQ{s:Bs}{n i:Nat}(h:2≤n):Mm s n i []=none:=if_neg (by omega)
theorem Z7{s:Bs}{n i:Nat}(h:n≤1)(rp:List Bs):Mm s n i rp=if rp=[]then some (M4 s)else none:=by
 cases rp with
 |nil=>exact if_pos h
 |cons x rp=>exact if_pos h
theorem SF{s x:Bs}{n i:Nat}{rp:List Bs}(h:2≤n)(hi:i<Bq n):Mm s n i (x::rp)=(Mm s (Bq n) i rp).map (Hw (x,false)):=by
 show(if n≤1 then _ else _)=_;rw [if_neg (by omega),if_pos hi];rfl
theorem Pf{s x:Bs}{n i:Nat}{rp:List Bs}(h:2≤n)(hi:¬i<Bq n):Mm s n i (x::rp)=(Mm s (n -Bq n) (i -Bq n) rp).map (Hw (x,true)):=by
 show(if n≤1 then _ else _)=_;rw [if_neg (by omega),if_neg hi];rfl
theorem VS{l:List Bs}{k:Nat}{x:Bs}(h:l[k]?=some x):(l.take (k+1)).reverse=x::(l.take k).reverse:=by rw [Bo h,wX];rfl
theorem V4(w:List (Bs×Bool))(x:Bs×Bool)(o:Option Bs):(o.map (Hw x)).map (fun v=>w.foldr Hw v)=o.map (fun v=>(w++[x]).foldr Hw v):=by
 cases o with
 |none=>rfl
 |some v=>simp
def l6(M:List AR)(v:Value)(ls:List (Bs×Bool)):Prop:=∃p cap,v= .slice p ls.length cap∧(ls.length≤maxLen∧ls.length≤cap)∧∀(i:Nat) (x:Bs×Bool),ls[i]?=some x→∃g off cur T zz,p=some ⟨g,off,none⟩∧(g,Obj.cells cur T zz)∈M∧off+i*2+2≤cur.size∧cur.extract (off+i*2) (off+i*2+2)=#[Dx x.1,.bool x.2]
theorem XT{e:TypeId}{v:Value}{ls:List (Bs×Bool)}{s:List AR}(h:BX 2 e v ls.length (Oc ls) s)(hn:ls.length≤maxLen):l6 s v ls:=by
 obtain ⟨b,cap,rfl⟩:=h.form;refine ⟨b,cap,rfl,⟨hn,FD h⟩,fun i x hx=>?_⟩;obtain ⟨g,cap',cur,z,hv,rfl,hsz,hex⟩:=Ha h i (tH.1 hx).1;injection hv with hv1 hv2 hv3
 refine ⟨g,0,cur,e,z,hv1,by simp,by omega,?_⟩;unfold Oc at hex;rw [GN _ 2 (fun _=>rfl) ls i x hx]at hex;rw [uL];exact vS.1 hex
theorem eO(xs:List (Bs×Bool))(q:Bs):(bwd xs).foldl (fun o (x:Nat×(Bs×Bool))=>Hw x.2 o) q=xs.foldr Hw q:=by
 have h:(bwd xs).foldl (fun o (x:Nat×(Bs×Bool))=>Hw x.2 o) q=((bwd xs).map Prod.snd).foldl (fun o x=>Hw x o) q:=by rw [List.foldl_map]
 rw [h,Uk,List.foldl_reverse]
theorem jR(s:Bs):(M4 s).length=32:=LU _
theorem lW(a b:Bs):decide (str a=str b)=(!false&&decide (some a=some b)):=by
 have h:(str a=str b)↔a=b:=⟨fun h=>by rw [←HV a,←HV b,h],fun h=>by rw [h]⟩;simp [h]
theorem dU(x:Bs×Bool)(o:Bs):(Hw x o).length=32:=by unfold Hw;split<;>exact LU _
theorem eH(xs:List (Nat×(Bs×Bool)))(q:Bs)(hq:q.length=32):(xs.foldl (fun o (x:Nat×(Bs×Bool))=>Hw x.2 o) q).length=32:=by
 rcases xG xs with rfl|⟨ys,y,rfl⟩
 · exact hq
 · rw [yC,wJ];exact dU _ _
theorem jX(s:Bs):Av Tryz.prog 251 #[.string (str s)] [] (.bool (decide (s.length=32))):=by
 refine Se func251 ntmps251 [0] ?_;intro u R;refine Zq<|Zg<|Za Y<|Z0<|Zx<|Zq<|Zg<|Zm Y<|Zv (EN underlying9 Y)<|Zv (C8 (n:=32) Y Y)<|Za Y<|Z0<|Zx<|A9 ?_;refine AB rfl results251 Y (by exact ⟨by rw [Ba],rfl⟩)
theorem j6(s:Bs):Av Tryz.prog 250 #[.string (str s)] [] (.bool (PH s)):=by
 refine Se func250 ntmps250 [0] ?_;intro u R;refine Zq<|Zg<|Za Y<|Z0<|Zx<|Zq<|Zg<|Zm Y<|Xr [_] Y call251 Y rfl (jX s) ?_;refine Zv (CB Y)<|Za Y<|Z0<|Zx<|A9 ?_;refine AB rfl results250 Y (by exact ⟨by unfold PH;rw [decide_not],rfl⟩)
theorem YI{M:List AR}{v:Value}{ls:List Bs}(hv:Dn M v ls)(hn:ls.length≤1000000000):CO Tryz.prog 283 #[v,.func (.func 250) #[] #[]] [M] (fun r H'=>∃k:Int,r=I4 k∧decide (0≤k)=ls.any PH∧H'=[M]):=by
 have hml:=mL;obtain ⟨p,cap,rfl,hl,hg⟩:=hv;refine Se func283 ntmps283 [0,1] ?_;intro u R;refine Zq<|Zg<|Za Y<|Z0<|Zx<|Zq<|Zq<|Zg<|Zm Y<|Zv (AV underlying47 Y)<|Zm Y<|Z0<|Zx<|AQ<|Zb [8,0,1,7] ?_;refine Az (e0:=[(8,_)]) (fun m e H=>∃(i:Nat),m=ls.length -i∧(i≤ls.length∧(ls.take i).any PH=false)∧e=[(8,I4 (i:Int))]∧H=[]) (by exact ⟨0,rfl,⟨tX _,rfl⟩,rfl,rfl⟩) Wp ?_;rintro _ _ _ ⟨i,rfl,⟨hi9,hany⟩,rfl,rfl⟩;refine Zq<|Zg<|Zv (Aq Y Y)<|Z0<|Zx<|Zq ?_;refine Ao Y (fun hlt=>?_) (fun hlt=>?_)
 ·
  obtain ⟨x,hx⟩:∃x,ls[i]?=some x:=⟨_,tF hlt⟩;obtain ⟨g,off,cur,T,zz,rfl,hm9,hex9⟩:=hg i x hx;refine AC<|Zx<|Zq<|AQ<|Zq<|Zg<|Zm Y<|Za Y<|Z0<|Zx<|Zq<|Zg<|Zm Y<|Zm Y<|Zm Y ?_;refine BM (BS underlying47 sizeOf9 Y Y (by omega)) ?_;refine Cf (cs:=[(g,.cells cur T zz)]) (by simp [hm9]) (Bf isAgg9 Y (by exact hex9)) rfl rfl ?_;refine Xr [_] Y call250 Y rfl (j6 x) ?_;refine Z0<|Zx ?_;refine Af Y (fun hlx=>?_) (fun hlx=>?_)
  ·
   refine Zq<|Zg<|Zm Y<|Za Y<|Z0<|Zx<|A9<|AY<|Zt<|Zt<|AY<|Zt ?_;refine AB rfl results283 Y (by exact ⟨(i:Int),rfl,by rw [nX _ ls i x hx hlx];exact decide_eq_true (by omega),rfl⟩)
  refine AC<|A8<|Zx<|Zg<|Ya (n:=1) Y Y<|Zm Y<|Z0<|Zn [8,0,1,7] ?_;refine Ab (e':=[(8,_)]) (by exact ⟨i+1,rfl,⟨by omega,by rw [fK _ ls i x hx,hany];exact hlx⟩,rfl,rfl⟩)
 have ei:i=ls.length:=by omega
 subst ei;rw [uQ]at hany;refine Ar<|Zt<|Zt<|AO<|Zx<|Zq<|Zg<|Za Y<|Z0<|Zx<|A9 ?_;refine AB rfl results283 Y (by exact ⟨-1,rfl,by rw [hany];rfl,rfl⟩)
theorem Rn{M:List AR}{v:Value}{ls:List Bs}(hv:Dn M v ls)(hn:ls.length≤1000000000):Av Tryz.prog 252 #[v,.func (.func 250) #[] #[]] [M] (.bool (ls.any PH)):=by
 refine Se func252 ntmps252 [0,1] ?_;intro u R;refine Zq<|Zg<|Za Y<|Z0<|Zx<|Zq<|Zg<|Zm Y<|Zm Y<|Zc [_,_] Y call283 Y rfl (YI hv hn) ?_;rintro _ _ ⟨_,⟨k,rfl,hk,rfl⟩,rfl⟩;refine Zv (GZ Y Y)<|Za Y<|Z0<|Zx<|A9 ?_;refine AB rfl results252 Y (by exact ⟨by rw [←hk],rfl⟩)
theorem kr{M:List AR}{v:Value}{ls:List Bs}(hv:Dn M v ls)(hn:ls.length≤1000000000):Av Tryz.prog 200 #[v] [M] (.bool (!(ls.any PH))):=by
 refine Se func200 ntmps200 [0] ?_;intro u R;refine Zq<|Zg<|Za Y<|Z0<|Zx<|Zq<|Zg<|Za Y<|Z0<|Zx<|Zq<|Zg<|Zm Y<|Zm Y<|Xr [_,_] Y call252 Y rfl (Rn hv hn) ?_;refine Zv (Ca Y)<|Za Y<|Z0<|Zx<|A9 ?_;refine AB rfl results200 Y (by exact ⟨rfl,rfl⟩)
theorem aZ(p:Option Addr)(cap:Nat):Av Tryz.prog 201 #[.slice p 0 cap] [] (.tuple #[.string (str []),.slice none 0 0,.bool false]):=by
 refine Se func201 ntmps201 [0] ?_;intro u R;refine Zq<|Zg<|Za Y<|Za Y<|Za Y<|Z0<|Zx<|Zq<|Zq<|Zg<|Zm Y<|Zv (AV underlying47 Y)<|Zv (C8 (n:=0) Y Y)<|Z0<|Zx ?_;refine Ao Y (fun h1=>?_) (fun h1=>?_)
 ·
  refine Zq<|Zg<|Za Y<|Za Y<|Za Y<|Z0<|Zx<|A9<|Zt ?_;refine ZT rfl results201 Y Y Y (by exact ⟨rfl,rfl⟩)
 exfalso;omega
theorem aY{M:List AR}{p:Option Addr}{cap:Nat}{ls:List Bs}(hv:Dn M (.slice p ls.length cap) ls)(k:Nat)(x:Bs)(hk:ls.length=k+1)(hx:ls[k]?=some x):Av Tryz.prog 201 #[.slice p ls.length cap] [M] (.tuple #[.string (str x),.slice p k cap,.bool true]):=by
 have hml:=mL;obtain ⟨p2,cap2,e,hl,hg⟩:=hv;injection e with e1 e2 e3
 subst e1 e3;rw [hk]at hl⊢;obtain ⟨g,off,cur,T,zz,rfl,hm9,hex9⟩:=hg k x hx;refine Se func201 ntmps201 [0] ?_;intro u R;refine Zq<|Zg<|Za Y<|Za Y<|Za Y<|Z0<|Zx<|Zq<|Zq<|Zg<|Zm Y<|Zv (AV underlying47 Y)<|Zv (C8 (n:=0) Y Y)<|Z0<|Zx ?_;refine Ao Y (fun h1=>?_) (fun h1=>?_)
 ·
  exfalso;omega
 refine AC<|Zx<|Zq<|Zg<|Zm Y<|Zv (AV underlying47 Y)<|Yb (n:=1) Y Y<|Za Y<|Z0<|Zx<|Zq<|BI (n:=10) (0::0::3::7::0::0::48::15::255::511::[]) 0 (by kernel_rfl) (by kernel_rfl) rfl ?_;refine Zi 1 0 rfl (AJ Y)<|Zi 3 1 rfl (AJ Y) ?_;refine Zi 7 2 rfl (BS underlying47 sizeOf9 Y Y (by omega)) ?_;refine Fp (b:=g) (x:= .cells cur T zz) (D':=15) 3 rfl rfl rfl (by simp [hm9]) (Bf isAgg9 Y (by exact hex9)) ?_;refine Zi 31 4 rfl (AJ Y)<|Zi 63 5 rfl (AJ Y) ?_;refine Zi 127 6 rfl (Bc underlying47 sizeOf9 Y Y (by omega)) ?_;refine Zi 255 7 rfl (Ay Y)<|Zi 511 8 rfl (Ay Y)<|Zi 1023 9 rfl (Ay Y)<|Am ?_;refine Zn [2,3,4] ?_;refine Zx<|A9 ?_;refine ZT rfl results201 Y Y Y (by exact ⟨rfl,rfl⟩)
def oC(pf:List Bs)(k:Nat):Bs:=if k=0 then []else pf.getD (k -1) []
def qU(p:Option Addr)(k cap:Nat):Value:=if k=0 then .slice none 0 0 else .slice p (k -1) cap
theorem gG{M:List AR}{p:Option Addr}{cap:Nat}{pf:List Bs}(hv:Dn M (.slice p pf.length cap) pf)(k:Nat)(hk:k≤pf.length):Av Tryz.prog 201 #[.slice p k cap] [M] (.tuple #[.string (str (oC pf k)),qU p k cap,.bool (decide (0<k))]):=by
 rcases k with _|k
 · exact L8 (aZ p cap)
 · have hx:(pf.take (k+1))[k]?=some (pf.getD k []):=by
    rw [uX,if_pos (by omega),uZ,tF (by omega)];rfl
   have hl:(pf.take (k+1)).length=k+1:=by rw [tL];omega
   have h:=hv.take (k+1) hk;have h2:=aY (ls:=pf.take (k+1)) (p:=p) (cap:=cap) (by rw [hl];exact h) k _ hl hx
   rw [hl]at h2;exact h2
theorem YE(x:Bs)(f:Bool)(o:Bs)(hx:x.length≤1000000000)(ho:o.length≤1000000000)(Tg:TypeId)(zg:Nat×Nat):Av Tryz.prog 204 #[.agg #[.string (str x),.bool f],.string (str o)] [[(1,.cells (Cs.map Bj).toArray Tg zg)]] (.string (str (Hw (x,f) o))):=by
 refine Se func204 ntmps204 [0,1] ?_;intro u R;refine Zq<|Zg<|Ze (Bx #[_,_]) ?_;rintro _ _ ⟨b1,rfl,rfl⟩;refine Za Y<|Z0<|Zx<|Zq<|Zq<|Zg<|Zh 1 underlying261 rfl rfl sizeOf4 Y<|Zl isAgg4 Y ?_;refine Z0<|Zx ?_;refine Af Y (fun hf=>?_) (fun hf=>?_)
 ·
  refine Zq<|Zg<|Zh 0 underlying261 rfl rfl sizeOf9 Y<|Zl isAgg9 Y ?_;refine Zm Y<|Xr [_,_] Y call194 Y rfl (Lc x o hx ho Tg zg) ?_;refine Za Y<|Z0<|Zx<|A9<|Zt ?_;refine AB rfl results204 Y (by exact ⟨by rw [pM hf],rfl⟩)
 refine AC<|Zx<|Zq<|Zg<|Zm Y<|Zh 0 underlying261 rfl rfl sizeOf9 Y<|Zl isAgg9 Y ?_;refine Xr [_,_] Y call194 Y rfl (Lc o x ho hx Tg zg) ?_;refine Za Y<|Z0<|Zx<|A9 ?_;refine AB rfl results204 Y (by exact ⟨by rw [pO hf],rfl⟩)
theorem Rw(p:Option Addr)(n c:Nat):CO Tryz.prog 203 #[.slice p n c] [] (fun r H'=>∃b,r= .func (.func 254) #[] #[I5 b]∧H'=[[(b,.cells #[.slice p n c] 257 (0,0))]]):=by
 refine Se func203 ntmps203 [0] ?_;intro u R;refine Zq<|Zg<|Ze (Bx #[_]) ?_;rintro _ _ ⟨b,rfl,rfl⟩;refine Za Y<|Z0<|Zx<|Zq<|Zg<|Zv (Bt (vs:=[]) (us:=[_]) Y Y) ?_;refine Za Y<|Z0<|Zx<|A9 ?_;refine AB rfl results203 Y (by exact ⟨_,rfl,rfl⟩)
theorem Rx{M:List AR}{v:Value}{ls:List (Bs×Bool)}(hv:l6 M v ls)(b:Nat)(hn:ls.length≤1000000000000):
 Lm Tryz.prog 254 #[I5 b] [[(b,.cells #[v] 257 (0,0))]] (fun s=>∀c∈M,c∈s) (fun x=>#[I4 ((x.1:Nat):Int),.agg #[Dx x.2.1,.bool x.2.2]]) (bwd ls):=by
 have hml:=mL;obtain ⟨p,cap,rfl,hl,hg⟩:=hv;intro l J hA hy s hJ;refine Se func254 ntmps254 [0,1] ?_;intro u R;refine Zq<|Zg<|Zl isAgg257 Y ?_;refine Zv (AV underlying257 Y) ?_
 (refine BM (G8 Y Y (IntWalk.i64_in _ ?_)) ?_;(focus (omega)))
 refine Za Y<|Z0<|Zx<|AQ<|Zb [3,0,1] ?_;refine Az (e0:=[(3,_)]) (fun m e H=>∃(k:Nat) (s:List AR),m=0+k∧(k≤ls.length∧J ((bwd ls).take (ls.length -k)) s)∧e=[(3,I4 ((k:Int) -1))]∧H=[[(b,.cells #[.slice p ls.length cap] 257 (0,0))],s]) (by exact ⟨ls.length,s,rfl,⟨tQ _,by rw [xU,ut];exact hJ⟩,rfl,rfl⟩) Wp ?_;rintro _ _ _ ⟨k,s,rfl,⟨hk,hJ⟩,rfl,rfl⟩;refine Zq<|Zq<|Zg<|Zm Y<|Zv (GZ Y Y)<|Z0<|Zx ?_;refine Ao Y (fun hlt=>?_) (fun hlt=>?_)
 ·
  obtain ⟨m,rfl⟩:∃m,k=m+1:=⟨k -1,by omega⟩;rw [show(((m+1:Nat):Int) -1)=((m:Nat):Int) by omega];obtain ⟨z9,hz9⟩:∃z9,ls[m]?=some z9:=⟨_,tF (by omega)⟩;have hb9:=Yj hz9
  obtain ⟨g,o,cur,T,zz,rfl,hm,hex8⟩:=hg m z9 hz9
  (obtain ⟨hsz9,hex9⟩:=hex8)
  have hyk:=hy _ _ _ s (Pj hb9) hJ;refine AC<|Zx<|Zq<|AQ<|Zq<|Zg<|Zm Y<|Zm Y<|Zl isAgg257 Y ?_;refine Zm Y ?_;refine BM (AU underlying257 sizeOf261 Y Y (by omega)) ?_;refine Cf (cs:=[(g,.cells cur T zz)]) (by simp [hA _ s hJ _ hm]) (AX (cs:=#[Dx z9.1,.bool z9.2]) isAgg261 sizeOf261 Y (by omega) (by exact hex9)) rfl rfl ?_;refine Ze (Mj (vs:=[_,_]) Y Y (hyk) Wp) ?_;rintro _ _ ⟨_,⟨s',rfl,rfl,hJ'⟩,rfl⟩;refine Zv (Ca Y)<|Z0<|Zx ?_;refine Af Y (fun hb=>?_) (fun hb=>?_)
  ·
   cases hb
  refine AC<|A8<|Zx<|Zg<|Zm Y ?_
  (refine BM (G8 Y Y (IntWalk.i64_in _ ?_)) ?_;(focus (omega)))
  refine Za Y<|Z0<|Zn [3,0,1] ?_;refine Ab (e':=[(3,_)]) (by exact ⟨m,s',rfl,⟨by omega,by rw [show ls.length -m=ls.length -(m+1)+1 by omega,Bo hb9];exact hJ'⟩,rfl,rfl⟩)
 have hk0:k=0:=by omega
 subst hk0;rw [xA,uN (by rw [Ul];exact tQ _)]at hJ;refine Ar<|Zt<|Zt<|AO ?_;refine Gz rfl results254 (by exact ⟨s,rfl,hJ⟩)
theorem V7{M:List AR}{v:Value}{pf:List Bs}(hv:Dn M v pf)(hn:pf.length≤1000000)(root s:Bs)(hs:s.length≤140737488354000)(n i:Nat)(hi:i<n)(hb:n≤1000000)(Tg:TypeId)(zg:Nat×Nat):
 Av Tryz.prog 104 #[.string (str root),I4 (n:Int),I4 (i:Int),.string (str s),v] [[(1,.cells (Cs.map Bj).toArray Tg zg)],M] (.bool (RO root n i s pf)):=by
 have hml:=mL;obtain ⟨p,cap,rfl,hl,hg⟩:=id hv;refine G5 func104 rfl ntmps104 rfl ?_;intro u R;refine Zb [0,1,2,3,4] ?_;refine Zq<|Zg<|Za Y<|Z0<|Zx<|Zq<|Zq<|Zg<|Zm Y<|Zv (Aq (n:=0) Y Y)<|Zm Y ?_;refine Aj (t:=21) Y rfl (fun h1=>?_) (fun h1=>?_)
 ·
  exfalso;omega
 refine Zf Y Y<|Zf Y Y<|Yg (FR Y Y)<|Zv (AA Y Y)<|Zm Y ?_;refine Aj (t:=26) Y rfl (fun h2=>?_) (fun h2=>?_)
 ·
  exfalso;omega
 refine Zf Y Y<|Xr [_] Y call200 Y rfl (kr hv (by omega)) ?_;refine Yg (Ca Y)<|Zv (AA Y Y)<|Z0<|Zn [0,1,2,3,4,30] ?_;refine Zx ?_;refine Af Y (fun ha=>?_) (fun ha=>?_)
 ·
  have ha2:pf.any PH=true:=by simpa using ha
  refine Zq<|Zg<|Za Y<|Z0<|Zx<|A9<|Zt ?_;refine Qg rfl (VV results104 Y) (by exact ⟨by unfold RO;rw [ha2];rfl,rfl⟩)
 have ha2:pf.any PH=false:=by simpa using ha
 have h32:∀x∈pf,x.length=32:=fun x hx=>by have h:=List.any_eq_false.1 ha2 x hx;simpa [PH]using h
 refine AC<|Zx<|Zq<|Zg<|Za Y<|Z0<|Zx<|Zq<|AQ<|Bd ?_;refine Zb [1,2,4,11,0,3] ?_;refine Az (e0:=[(1,_),(2,_),(4,_),(11,_)]) (fun m e H=>∃(n2 i2 k:Nat) (way:List (Bs×Bool)) (vw:Value) (sw:List AR),m=0+n2∧(k≤pf.length∧i2<n2∧n2≤n∧Mm s n i pf.reverse=(Mm s n2 i2 (pf.take k).reverse).map (fun v=>way.foldr Hw v)∧BX 2 261 vw way.length (Oc way) sw∧way.length+k=pf.length∧(∀x∈way,x.1.length=32))∧e=[(1,I4 (n2:Int)),(2,I4 (i2:Int)),(4,.slice p k cap),(11,vw)]∧H=[sw]) (by exact ⟨n,i,pf.length,[],.slice none 0 0,[],rfl,⟨tQ _,hi,tQ _,by rw [uQ];simp,BV 2 _,by simp,by simp⟩,rfl,rfl⟩) Wp ?_;rintro _ _ _ ⟨n2,i2,k,way,vw,sw,rfl,⟨hk,hi2,hn2,hva,hrw,hwk,hw32⟩,rfl,rfl⟩;obtain ⟨qw,cw,rfl⟩:=hrw.form;refine Zq<|Zq<|Zg<|Zm Y<|Zv (DJ (n:=1) Y Y)<|Z0<|Zx ?_;refine Ao Y (fun hn9=>?_) (fun hn9=>?_)
 ·
  have h9:2≤n2:=by omega
  have hk1:=IY h9;have hk2:=Hu n2
  have hk3:=mg h9;refine AC<|Zx<|AQ<|Zq<|Zg<|Zm Y<|Xr [_] Y call201 Y rfl (gG hv k hk) ?_;refine Zm Y<|Zd Y rfl<|Zd Y rfl<|Zd Y rfl<|Za Y<|Za Y<|Za Y<|Z0<|Zx<|Zq<|Zq<|Zg<|Zm Y<|Zv (CB Y)<|Z0<|Zn [0,1,2,3,11,12,13,40] ?_;refine Zx ?_;refine Ao Y (fun ht=>?_) (fun ht=>?_)
  ·
   have hk0:k=0:=by omega
   subst hk0;rw [ut,List.reverse_nil,lQ h9]at hva;refine Zq<|Zg<|Za Y<|Z0<|Zx<|A9<|Zt<|AY<|Zt<|AY<|Zt ?_;refine Qg rfl (VV results104 Y) (by exact ⟨by unfold RO;rw [hva,ha2];rfl,rfl⟩)
  obtain ⟨k,rfl⟩:∃m,k=m+1:=⟨k -1,by omega⟩;obtain ⟨x9,hx9⟩:∃x,pf[k]?=some x:=⟨_,tF (by omega)⟩;have hls:oC pf (k+1)=x9:=by show pf.getD k []=x9;rw [uZ,hx9];rfl
  have hx32:=h32 x9 (tV hx9);have hw33:∀f:Bool,∀y∈way++[(x9,f)],y.1.length=32:=fun f y hy=>by rcases uF.1 hy with hy|hy;exact hw32 y hy;rw [tq]at hy;rw [hy];exact hx32
  rw [hls];refine AC<|Zx<|Zq<|Zg<|Zm Y<|Za Y<|Z0<|Zx<|Zq<|Zg<|Zm Y<|Xr [_] Y call202 Y rfl (TR n2 h9 (by omega)) ?_;refine Za Y<|Z0<|Zx<|Zq<|Zg<|Zm Y<|Zm Y<|Zm Y<|Zm Y<|Zv (FR Y Y)<|Zv (BK (vs:=[(0,_),(1,_)]) (cs:=#[_,_]) Y (Aa (pl:=#[(0,1),(1,1)]) zeroValue261 underlying261 (fun _=>by kernel_rfl) rfl)) ?_;refine Ze (Ae (vs:=[_]) (cs:=[_,_]) underlying257 sizeOf261 zeroValue261 Y rfl rfl rfl rfl rfl) ?_;rintro _ _ ⟨b1,rfl,rfl⟩;refine Ze (DF (by_:=24) (sz:=2) (news:=[_,_]) underlying257 (rfl:Tryz.prog.info? 261=some Tryz.t261) rfl rfl rfl rfl Y hrw Y Wo Wh (by rfl) rfl (by simp [Value.oneCell',Value.cells]) (by decide) (by omega) (by omega)) ?_;rintro _ _ ⟨sw5,hrw5,rfl⟩;obtain ⟨gw5,cw5,rfl⟩:=hrw5.form;refine Za Y<|Z0<|Zn [0,1,2,3,4,11,15] ?_;refine Zx<|Zq<|Zg<|Zm Y<|Zm Y<|Zv (FR Y Y)<|Z0<|Zx ?_;refine Ao Y (fun hge=>?_) (fun hge=>?_)
  ·
   have hgd:decide (Bq n2≤i2)=true:=decide_eq_true hge;refine Zg<|Zm Y<|Zm Y<|Yb Y Y<|Zm Y<|Zm Y<|Yb Y Y<|Za Y<|Za Y<|Z0<|A8<|Zn [1,2,4,11,0,3] ?_;refine Ab (e':=[(1,_),(2,_),(4,_),(11,_)]) (by exact ⟨n2 -Bq n2,i2 -Bq n2,k,way++[(x9,true)],_,_,rfl,⟨by omega,by omega,by omega,by rw [hva,VS hx9,Pf h9 (by omega),V4],BO hrw5 (by simp) (by rw [Po];exact congrArg (fun b=>Oc way++[Dx x9,.bool b]) hgd),by rw [tK];simp;omega,hw33 true⟩,rfl,rfl⟩)
  have hgd:decide (Bq n2≤i2)=false:=decide_eq_false hge;refine Zg<|Zm Y<|Za Y<|Z0<|A8<|Zn [1,2,4,11,0,3] ?_;refine Ab (e':=[(1,_),(2,_),(4,_),(11,_)]) (by exact ⟨Bq n2,i2,k,way++[(x9,false)],_,_,rfl,⟨by omega,by omega,by omega,by rw [hva,VS hx9,SF h9 (by omega),V4],BO hrw5 (by simp) (by rw [Po];exact congrArg (fun b=>Oc way++[Dx x9,.bool b]) hgd),by rw [tK];simp;omega,hw33 false⟩,rfl,rfl⟩)
 refine Ar<|Zt<|Zt<|AO<|Zx<|Zq<|Zg<|Zm Y<|Xr [_] Y call193 Y rfl (TS s hs Tg zg) ?_;refine Ze (Al zeroValue9 #[_]) ?_;rintro _ _ ⟨ob,rfl,rfl⟩;refine Xe (Zs sizeOf9 Y Y rfl (hc:=by exact (rfl:_=(#[Dx (M4 s)]:Array Value)))) ?_;refine Z0<|Zx<|Zq<|Zq<|Zg<|Zm Y<|Zc [_] Y call203 Y rfl (Rw _ _ _) ?_;rintro _ _ ⟨_,⟨bb,rfl,rfl⟩,rfl⟩;refine Z0<|Zx<|AQ<|Zb [0,4,16,65] ?_;refine Uq (H0:=_) (R:=_) (I:=(fun pre H=>H=[[(ob,.cells #[Dx (pre.foldl (fun o (x:Nat×(Bs×Bool))=>Hw x.2 o) (M4 s))] 9 (0,0))],sw,[(1,.cells (Cs.map Bj).toArray Tg zg)]])) (E:=fun x e Hn=>∃bx,e=[(18,I5 bx),(67,.agg #[Dx x.2.1,.bool x.2.2]),(66,I4 ((x.1:Nat):Int))]∧Hn=[[(bx,.cells #[Dx x.2.1,.bool x.2.2] 261 (0,0))]]) rfl Y call254 (Rx (ls:=way) (XT hrw (by omega)) bb (by omega)) (fun pre H1 c d h=>by subst h;intro x hx;simp [hx]) Y rfl Wp (rfl) ?ha_7 ?hbd_7 ?hk_7
 case ha_7=>
  intro _ x _ _;refine Zg<|Ze (Al zeroValue261 #[_,_]) ?_;rintro _ _ ⟨bx,rfl,rfl⟩;refine Xe (BN sizeOf261 Y Y (by simp [Dx,Value.oneCell']) Wu (by exact (rfl:_=(#[Dx x.2.1,.bool x.2.2]:Array Value))) (by first|rfl|(simp;done)) Wn (by exact BQ _)) ?_;refine Z0<|jB (e:=[(18,_),(67,_),(66,_)]) (Hn:=[[(_,_)]]) ?_;exact ⟨_,rfl,rfl⟩
 case hbd_7=>
  intro l pre x post u e9 Hn9 H1 R1 hxs hI hE9;obtain ⟨bx,rfl,rfl⟩:=hE9;subst hI;refine AQ<|Zg<|Zo Wh (Pa #[_,_] isAgg261 sizeOf261 Y) ?_;refine Zl isAgg9 Y ?_;refine Xr [_,_] Y call204 Y rfl (YE x.2.1 x.2.2 _ (by rw [hw32 _ (aP (OP hxs))];omega) (by rw [eH _ _ (jR s)];omega) Tg zg) ?_;refine Xe (Zs sizeOf9 Y Y rfl) ?_;refine Z0<|A8 ?_;refine Ji rfl (by rw [wJ])
 intro D1 H2 hI2;subst hI2;refine Zn [0,4,16] ?_;refine A8<|Zx<|Zq<|Zg<|Zm Y<|Zv (AV underlying47 Y)<|Zv (C8 (n:=0) Y Y)<|Zm Y ?_;refine Aj (t:=74) Y rfl (fun hz=>?_) (fun hz=>?_)
 ·
  have hn1:n2≤1:=by omega
  subst hz;rw [Z7 hn1,if_pos (by simp)]at hva;refine Yl isAgg9 Y ?_;refine Zf Y Y<|Yg (OI Y Y)<|Zv (AL Y Y)<|Za Y<|Z0<|Zx<|A9 ?_;refine Jj rfl (VV results104 Y) Wo (by exact ⟨by unfold RO;rw [ha2,hva,eO];exact congrArg Value.bool (lW _ _),rfl⟩)
 have hn1:n2≤1:=by omega
 rw [Z7 hn1,if_neg (by intro e;have e2:(pf.take k).reverse.length=0:=(by rw [e];rfl);rw [xS,tL]at e2;omega)]at hva;refine A7 Y rfl<|A7 Y rfl<|A7 Y rfl<|Zv (AA Y Y)<|Za Y<|Z0<|Zx<|A9 ?_;refine Jj rfl (VV results104 Y) Wo (by exact ⟨by unfold RO;rw [ha2,hva];rfl,rfl⟩)
def J4(r:AP):Bs:=CU [r.t,r.k]++CU [r.v.a,r.v.b,r.v.c]
theorem N9{r:AP}(h:r.ok):(∀n∈[r.t,r.k],-4611686018427387903≤n∧n≤4611686018427387903)∧(∀n∈[r.v.a,r.v.b,r.v.c],-4611686018427387903≤n∧n≤4611686018427387903):=by
 obtain ⟨⟨h1,h2,h3⟩,h4,h5⟩:=h;unfold inV at h1 h2 h3;constructor
 · intro n hn
   simp only [uI,vT,or_false]at hn;rcases hn with rfl|rfl<;>omega
 · intro n hn
   simp only [uI,vT,or_false]at hn;rcases hn with rfl|rfl|rfl<;>omega
theorem R6{r:AP}(h:r.ok):(J4 r).length≤45:=by
 have h1:=Cv _ (N9 h).1;have h2:=Cv _ (N9 h).2
 unfold J4;rw [tK];simp only [tY,vG]at h1 h2;omega
theorem jY(a b:Int):Gt #[I4 a,I4 b] 0 [a,b]:=by
 intro i n h;rcases i with _|_|i
 · simp at h;subst h;rfl
 · simp at h;subst h;rfl
 · simp at h
theorem nI(r:AP):Gt #[I4 r.t,I4 r.k,I4 r.v.a,I4 r.v.b,I4 r.v.c] 2 [r.v.a,r.v.b,r.v.c]:=by
 intro i n h;rcases i with _|_|_|i
 · simp at h;subst h;rfl
 · simp at h;subst h;rfl
 · simp at h;subst h;rfl
 · simp at h
theorem SS(r:AP)(hr:r.ok):Av Tryz.prog 103 #[.agg #[I4 r.t,I4 r.k,I4 r.v.a,I4 r.v.b,I4 r.v.c]] [] (.tuple #[.string (str (J4 r)),I4 0]):=by
 have hn:=N9 hr;have hl1:=Cv _ hn.1
 have hl2:=Cv _ hn.2;simp only [tY,vG]at hl1 hl2;refine Se func103 ntmps103 [0] ?_;intro u R;refine Zq<|Zg<|Ze (Bx #[_,_,_,_,_]) ?_;rintro _ _ ⟨xb,rfl,rfl⟩;refine Za Y<|Za Y<|Z0<|Zx<|Zq<|Zq<|Zg<|Zo Wh (Pa #[_,_,_,_,_] isAgg113 sizeOf113 Y) ?_;refine Xr [_] Y call186 Y rfl (Pw r) ?_;rw [decide_eq_true hr];refine Zv (Ca Y)<|Z0<|Zx ?_;refine Af Y (fun hv=>?_) (fun hv=>?_)
 ·
  cases hv
 refine AC<|Zx<|Zq<|BI (n:=12) (0::1::0::4::15::31::0::64::255::511::1023::2047::[]) 304 (by kernel_rfl) (by kernel_rfl) rfl ?_;refine Zi 1 0 rfl (AZ (off:=0) underlying113 rfl rfl sizeOf3 Y)<|Zj 3 1 rfl isAgg3 Y ?_;refine Zi 7 2 rfl (AZ (off:=1) underlying113 rfl rfl sizeOf3 Y)<|Zj 15 3 rfl isAgg3 Y ?_;refine Zi 79 6 rfl (AZ (off:=2) underlying113 rfl rfl sizeOf75 Y)<|Zi 207 7 rfl (F4 underlying75 sizeOf3 Y)<|Zz (l:=[4]) ?_;refine Zy 15 223 [3,1] [false,false] [] rfl Y rfl rfl rfl rfl (Ae (vs:=[_,_]) (cs:=[_,_]) underlying210 sizeOf3 zeroValue3 Y rfl rfl rfl rfl rfl) ?hk_1 (fun _ _ h=>h.elim) ?hl_1
 case hk_1=>
  rintro _ _ ⟨gb,rfl,rfl⟩;refine ⟨Ad,?_⟩;refine Yw 5 255 rfl (Zu [_] Y call199 Y rfl (Pz gb 0 2 _ _ _ [r.t,r.k] (jY r.t r.k) (by simp) hn.1)) ?_;rintro _ _ ⟨rfl,rfl⟩;refine Yw 8 511 rfl (Zu [_] Y call199 Y rfl (Pz xb 2 3 _ _ _ [r.v.a,r.v.b,r.v.c] (nI r) (by simp) hn.2)) ?_;rintro _ _ ⟨rfl,rfl⟩;refine Zi 1023 9 rfl (Dc Y Y (by rw [Ba,Ba];omega)) ?_;refine Zi 2047 10 rfl (Ay Y)<|Zi 4095 11 rfl (Ay Y)<|Am ?_;refine Zn [2,3] ?_;refine Zx<|A9 ?_;refine Da rfl results103 Y Y (by exact ⟨by rw [E8];rfl,rfl⟩)
 exact Aw
def BC(rs:List AP)(t:Int)(c:Nat):List AP:=Ci rs t c (-1000000000) 1000000000
theorem Ho{rs:List AP}(hs:BJ rs)(t:Int)(c:Nat):(BC rs t c).length≤rs.length:=by
 unfold BC;rw [(EO rs t c _ _).length_eq];exact wG _ _
theorem Ih{rs:List AP}{t:Int}{c:Nat}{lo hi:Int}{r:AP}(h:r∈Ci rs t c lo hi):r∈rs:=(vW.1 ((EO rs t c lo hi).mem_iff.1 h)).1
def Js(l:List AP):List Bs:=l.map J4
theorem EQ(l:List AP):(Js l).length=l.length:=tJ ..
theorem Wv{l:List AP}{i:Nat}{x:AP}(h:l[i]?=some x):(Js (l.take (i+1))).map Dx=(Js (l.take i)).map Dx++[.string (str (J4 x))]:=by
 rw [Bo h];unfold Js;rw [uK,uK];rfl
def l7(l:List AP)(vr ve:Value)(sr se:List AR):Prop:=BX 5 113 vr (l).length (Ac (l)) sr∧BX 1 9 ve l.length ((Js l).map Dx) se
theorem QY(v:Value)(p:Int)(rs:List AP)(s:List AR)(hv:PO v p rs s)(hs:BJ rs)(hn:rs.length≤2000)(hok:∀r∈rs,r.ok)(t:Int)(c:Nat)(hc:c≤3):
 CO Tryz.prog 115 #[v,I4 t,I4 (c:Int)] [s] (fun r H'=>∃vr ve sr se,r= .agg #[vr,ve]∧l7 (BC rs t c) vr ve sr se∧H'=[sr,se,s]):=by
 have hml:=mL;have hll:=Ho hs t c
 refine Se func115 ntmps115 [0,1,2] ?_;intro u R;refine Zq<|Zg<|Ze (Al zeroValue187 #[_,_]) ?_;rintro _ _ ⟨qb,rfl,rfl⟩;refine Z0<|Zx<|Zq<|Zg<|Zm Y<|Zm Y<|Zm Y<|Zc [_,_,_,_,_] Y call53 Y rfl (VE v p rs s hv t c (-1000000000) 1000000000 hc) ?_;rintro _ _ ⟨_,⟨sr,hrr,rfl⟩,rfl⟩;change BX 5 113 _ (BC rs t c).length (Ac (BC rs t c)) sr at hrr;obtain ⟨qr,cr,rfl⟩:=hrr.form;have hRU:=Dv hrr (by omega)
 obtain ⟨p9,cap9,e9,hol,hg⟩:=id hRU;injection e9 with e91 e92 e93
 subst e91 e93;refine Zv (BK (vs:=[(0,_)]) (cs:=#[_,_]) Y (Aa (pl:=#[(0,1),(1,1)]) zeroValue187 underlying187 (fun _=>by kernel_rfl) rfl)) ?_;refine Ze (Al zeroValue187 #[_,_]) ?_;rintro _ _ ⟨ob,rfl,rfl⟩;refine Xe (BN sizeOf187 Y Y (by(simp [Value.oneCell',Value.cells];done)) Wu (by exact (rfl:_=(#[.slice qr (BC rs t c).length cr,.slice none 0 0]:Array Value))) (by first|rfl|(simp;done)) Wb (by exact BQ _)) ?_;refine Z0<|Zx<|Zq<|Zq<|Zg<|Zh 0 underlying187 rfl rfl sizeOf45 Y<|Zl isAgg45 Y ?_;refine Zv (AV underlying45 Y)<|Zm Y<|Z0<|Zx<|AQ<|Bd ?_;refine Zb [20,6,7,18,19] ?_;refine Az (e0:=[(20,_)]) (fun m e H=>∃(i:Nat) (ve:Value) (se:List AR),m=(BC rs t c).length -i∧(i≤(BC rs t c).length∧BX 1 9 ve i ((Js ((BC rs t c).take i)).map Dx) se)∧e=[(20,I4 (i:Int))]∧H=[[(ob,.cells #[.slice qr (BC rs t c).length cr,ve] 187 (0,0))],se]) (by exact ⟨0,.slice none 0 0,[],rfl,⟨tX _,BV 1 _⟩,rfl,rfl⟩) Wp ?_;rintro _ _ _ ⟨i,ve,se,rfl,⟨hi,hre⟩,rfl,rfl⟩;obtain ⟨qe,ce,rfl⟩:=hre.form;refine Zq<|Zg<|Zv (Aq Y Y)<|Z0<|Zx<|Zq ?_;refine Ao Y (fun hlt=>?_) (fun hlt=>?_)
 ·
  obtain ⟨x,hx⟩:∃x,(BC rs t c)[i]?=some x:=⟨_,tF hlt⟩;obtain ⟨g,off,cur,T,zz,rfl,hm9,hsz9,hex9⟩:=hg i x hx;have hxo:=hok x (Ih (tV hx))
  refine AC<|Zx<|Zq<|AQ<|Zq<|Zg ?_;refine BM (AU underlying45 sizeOf113 Y Y (by first|omega|decide|(simp;done))) ?_;refine Cf (cs:=[(g,.cells cur T zz)]) (by simp [hm9]) (AX (cs:=#[I4 x.t,I4 x.k,I4 x.v.a,I4 x.v.b,I4 x.v.c]) isAgg113 sizeOf113 Y (by omega) hex9) rfl rfl ?_;refine Ze (Al zeroValue113 #[_,_,_,_,_]) ?_;rintro _ _ ⟨xb,rfl,rfl⟩;refine Xe (Xw sizeOf113 #[I4 x.t,I4 x.k,I4 x.v.a,I4 x.v.b,I4 x.v.c]) ?_;refine Z0<|Zx<|Zq<|Zg<|Zo Wh (Pa #[_,_,_,_,_] isAgg113 sizeOf113 Y) ?_;refine Xr [_] Y call103 Y rfl (SS x hxo) ?_;refine Zm Y<|Zd Y rfl<|Zd Y rfl<|Za Y<|Za Y<|Z0<|Zx<|Zg<|Zh 1 underlying187 rfl rfl sizeOf47 Y<|Zl isAgg47 Y ?_;refine Zm Y<|Ze (Ae (vs:=[_]) (cs:=[_]) underlying47 sizeOf9 zeroValue9 Y rfl rfl rfl rfl rfl) ?_;rintro _ _ ⟨b4,rfl,rfl⟩;refine Ze (DF (by_:=16) (sz:=1) (news:=[_]) underlying47 (rfl:Tryz.prog.info? 9=some Tryz.t9) rfl rfl rfl rfl Y hre Y Wo Wh (by rfl) rfl (by simp [Value.oneCell']) (by decide) (by omega) (by omega)) ?_;rintro _ _ ⟨sw5,hrw5,rfl⟩;obtain ⟨gw5,cw5,rfl⟩:=hrw5.form;refine Zh 1 underlying187 rfl rfl sizeOf47 Y<|Xe (Zs sizeOf47 Y Y rfl (hc:=by exact (rfl:_=(#[.slice _ (BC rs t c).length cr,_]:Array Value))) (hi:=by first|omega|decide|(simp;done))) ?_;refine Z0<|Zn [6,7,18,19,20] ?_;refine A8<|Zx<|Zg<|Ya (n:=1) Y Y<|Zm Y<|Z0<|Zn [20,6,7,18,19] ?_;refine Ab (e':=[(20,_)]) (by exact ⟨i+1,_,_,rfl,⟨by omega,BO hrw5 rfl (by rw [Wv hx])⟩,rfl,rfl⟩)
 have ei:i=(BC rs t c).length:=by omega
 subst ei;rw [uQ]at hre;refine Ar<|Zt<|Zt<|AO<|Zx<|Zq<|Zg<|Zo Wh (Pa #[_,_] isAgg187 sizeOf187 Y) ?_;refine Xe (BN sizeOf187 Y Y (by(simp [Value.oneCell',Value.cells];done)) Wu (by exact (rfl:_=(#[.slice qr (BC rs t c).length cr,.slice qe _ ce]:Array Value))) (by first|rfl|(simp;done)) Wb (by exact BQ _)) ?_;refine Z0<|Zx<|A9 ?_;refine D7 rfl results115 Y Wh (Ah isAgg187 sizeOf187 Wn (rfl)) (by exact ⟨.slice qr _ cr,.slice qe _ ce,sr,se,rfl,⟨hrr,hre⟩,rfl⟩)
theorem Vu(v:Value)(p:Int)(rs:List AP)(s:List AR)(hv:PO v p rs s)(hs:BJ rs)(hn:rs.length≤2000)(hok:∀r∈rs,r.ok)(t:Int)(c:Nat)(hc:c≤3):
 CO Tryz.prog 115 #[v,I4 t,I4 (c:Int)] [s] (fun r H'=>∃vr ve sr se,r= .agg #[vr,ve]∧l7 (BC rs t c) vr ve sr se∧H'=[sr++se,s]):=by
 refine EB (QY v p rs s hv hs hn hok t c hc) rfl ?_;rintro r H' ⟨vr,ve,sr,se,rfl,h,rfl⟩;exact ⟨_,⟨vr,ve,sr,se,rfl,h,rfl⟩,by simp⟩
def tcs:List (Nat×Nat):=(List.range 4).flatMap fun t=>(List.range 4).map fun c=>(t,c)
theorem gF:∀t,t<4→∀c,c<4→tcs[4*t+c]?=some (t,c):=by decide
def XP(rs:List AP)(x:Nat×Nat):Bs:=L6 ((BC rs (x.1:Int) x.2).length:Int)++Cq (Js (BC rs (x.1:Int) x.2))
def Mq(rs:List AP):List Bs:=tcs.map (XP rs)
def DZ(rs:List AP):Bs:=Cq (Mq rs)
def tC(rs:List AP)(x:Nat×Nat)(vs:Array Value)(sx:List AR):Prop:=∃vr ve sr se,vs=#[.agg #[vr,ve]]∧l7 (BC rs (x.1:Int) x.2) vr ve sr se∧sx=sr++se
theorem PV{l:List AP}(h:∀r∈l,r.ok):∀s∈Js l,s.length≤45:=by
 intro s hs;obtain ⟨r,hr,rfl⟩:=uh.1 hs;exact R6 (h r hr)
theorem VB{rs:List AP}(hs:BJ rs)(hn:rs.length≤2000)(x:Nat×Nat):(XP rs x).length≤41:=by
 have h1:=Ho hs (x.1:Int) x.2;have h2:=GR ((BC rs (x.1:Int) x.2).length:Int) (by omega) (by omega)
 unfold XP;rw [tK,Ei];omega
theorem Vs(q:Option Addr):CO Tryz.prog 197 #[.pointer q] [] (fun r H'=>∃b,r= .func (.func 248) #[] #[I5 b]∧H'=[[(b,.cells #[.pointer q] 33 (0,0))]]):=by
 refine Se func197 ntmps197 [0] ?_;intro u R;refine Zq<|Zg<|Ze (Bx #[_]) ?_;rintro _ _ ⟨b,rfl,rfl⟩;refine Za Y<|Z0<|Zx<|Zq<|Zg<|Zv (Bt (vs:=[]) (us:=[_]) Y Y) ?_;refine Za Y<|Z0<|Zx<|A9 ?_;refine AB rfl results197 Y (by exact ⟨_,rfl,rfl⟩)
theorem Vt(v:Value)(p:Int)(rs:List AP)(s:List AR)(hv:PO v p rs s)(hs:BJ rs)(hn:rs.length≤2000)(hok:∀r∈rs,r.ok)(b:Nat):
 Tu Tryz.prog 248 #[I5 b] [[(b,.cells #[v] 33 (0,0))]] [s] (tC rs) tcs:=by
 have hml:=mL;intro l J hy s0 hJ;refine Se func248 ntmps248 [0,1] ?_;intro u R;refine Zq<|Zg<|Zm Y<|Z0<|Zx<|AQ<|Zb [5,0,1] ?_;refine Az (e0:=[(5,_)]) (fun m e H=>∃(t:Nat) (s2:List AR),m=4 -t∧(t≤4∧J (tcs.take (4*t)) s2)∧e=[(5,I4 (t:Int))]∧H=[s2]) (by exact ⟨0,s0,rfl,⟨by omega,hJ⟩,rfl,rfl⟩) Wp ?_;rintro _ _ _ ⟨t,s2,rfl,⟨ht,hJ2⟩,rfl,rfl⟩;refine Zq<|Zg<|Zv (Aq (n:=4) Y Y)<|Z0<|Zx<|Zq ?_;refine Ao Y (fun ht4=>?_) (fun ht4=>?_)
 ·
  refine AC<|Zx<|Zq<|AQ<|Zq<|Zg<|Zm Y<|Za Y<|Z0<|Zx<|Zq<|Zg<|Zm Y<|Z0<|Zx<|AQ<|Zb [8,0,1,3,5] ?_;refine Az (e0:=[(8,_)]) (fun m e H=>∃(c:Nat) (s3:List AR),m=4 -c∧(c≤4∧J (tcs.take (4*t+c)) s3)∧e=[(8,I4 (c:Int))]∧H=[s3]) (by exact ⟨0,s2,rfl,⟨by omega,hJ2⟩,rfl,rfl⟩) Wp ?_;rintro _ _ _ ⟨c,s3,rfl,⟨hc,hJ3⟩,rfl,rfl⟩;refine Zq<|Zg<|Zv (Aq (n:=4) Y Y)<|Z0<|Zx<|Zq ?_;refine Ao Y (fun hc4=>?_) (fun hc4=>?_)
  ·
   have hx:=gF t ht4 c hc4;refine AC<|Zx<|Zq<|AQ<|Zq<|Zg<|Zm Y<|Za Y<|Z0<|Zx<|Zq<|Zg<|Zm Y<|Zl isAgg33 Y ?_;refine Zm Y<|Zm Y<|Zc [_,_,_] Y call115 Y rfl (Vu v p rs s hv hs hn hok (t:Int) c (by omega)) ?_;rintro _ _ ⟨_,⟨vr,ve,sr,se,rfl,hO,rfl⟩,rfl⟩;have hyk:=hy _ _ _ s3 #[.agg #[vr,ve]] (sr++se) (Pj hx) hJ3 ⟨vr,ve,sr,se,rfl,hO,rfl⟩
   refine Ze (Mj (vs:=[_]) Y Y (hyk) Wp) ?_;rintro _ _ ⟨_,⟨s4,rfl,rfl,hJ4⟩,rfl⟩;refine Zv (Ca Y)<|Z0<|Zx ?_;refine Af Y (fun hb=>?_) (fun hb=>?_)
   ·
    cases hb
   refine AC<|A8<|Zx<|Zg<|Ya (n:=1) Y Y<|Zm Y<|Z0<|Zn [8,0,1,3,5] ?_;refine Ab (e':=[(8,_)]) (by exact ⟨c+1,s4,rfl,⟨by omega,by rw [←yP,Bo hx];exact hJ4⟩,rfl,rfl⟩)
  refine Ar<|Zt<|Zt<|AO<|A8<|Zx<|Zg<|Ya (n:=1) Y Y<|Zm Y<|Z0<|Zn [5,0,1] ?_;refine Ab (e':=[(5,_)]) (by exact ⟨t+1,s3,rfl,⟨by omega,by rw [Nat.mul_add,wP];have e4:c=4:=(by omega);subst e4;exact hJ3⟩,rfl,rfl⟩)
 have e4:t=4:=by omega
 subst e4;refine Ar<|Zt<|Zt<|AO ?_;refine Gz rfl results248 (by exact ⟨s2,rfl,hJ2⟩)
theorem SI(v:Value)(p:Int)(rs:List AP)(s:List AR)(hv:PO v p rs s)(hs:BJ rs)(hn:rs.length≤2000)(hok:∀r∈rs,r.ok)(Tg:TypeId)(zg:Nat×Nat):
 CO Tryz.prog 101 #[v] [[(1,.cells (Cs.map Bj).toArray Tg zg)],s] (fun r H'=>∃so,BX 1 9 r 16 ((Mq rs).map Dx) so∧H'=[so,[(1,.cells (Cs.map Bj).toArray Tg zg)],s]):=by
 have hml:=mL;obtain ⟨sp9,mb9,es9,ck9,lm9,rfl,hst9⟩:=id hv;refine G5 func101 rfl ntmps101 rfl ?_;intro u R;refine Zb [0] ?_;refine Zq<|Zg<|Za Y<|Z0<|Zx<|Zq<|Zg<|Ze (Al zeroValue47 #[_]) ?_;rintro _ _ ⟨ob,rfl,rfl⟩;refine Z0<|Zx<|Zq<|Zq<|Zg<|Zm Y<|Zc [_] Y call197 Y rfl (Vs _) ?_;rintro _ _ ⟨_,⟨bb,rfl,rfl⟩,rfl⟩;refine Z0<|Zx<|AQ<|Zb [3,8] ?_;refine Bd ?_;refine Ur (H0:=_) (R:=_) (I:=(fun pre H=>∃v2 s2,H=[[(ob,.cells #[v2] 47 (0,0))],s2,[(1,.cells (Cs.map Bj).toArray Tg zg)]]∧BX 1 9 v2 pre.length ((pre.map (XP rs)).map Dx) s2)) (E:=fun x vs sx e Hn=>∃bx vr ve,vs=#[.agg #[vr,ve]]∧e=[(4,I5 bx),(9,.agg #[vr,ve])]∧Hn=[[(bx,.cells #[vr,ve] 187 (0,0))]]) rfl Y call248 (Vt _ p rs s hv hs hn hok bb) (fun x vs sx h=>by obtain ⟨vr,ve,sr,se,rfl,_⟩:=h;rfl) rfl Wp (⟨_,[],rfl,BV 1 _⟩) ?ha_2 ?hbd_2 ?hk_2
 case ha_2=>
  intro _ x vs sx _ _ hEnc;obtain ⟨vr,ve,sr,se,rfl,hO,rfl⟩:=hEnc;refine Zg<|Ze (Al zeroValue187 #[_,_]) ?_;rintro _ _ ⟨bx,rfl,rfl⟩;refine Xe (BN sizeOf187 Y Y (by obtain ⟨q1,c1,rfl⟩:=hO.1.form;obtain ⟨q2,c2,rfl⟩:=hO.2.form;simp [Value.oneCell',Value.cells]) Wu (by exact (rfl:_=(#[vr,ve]:Array Value))) (by first|rfl|(simp;done)) Wb (by exact BQ _)) ?_;refine Z0<|jB (e:=[(4,_),(9,_)]) (Hn:=[[(_,_)]]) ?_;exact ⟨_,_,_,rfl,rfl,rfl⟩
 case hbd_2=>
  intro l pre x post u vs sx e9 Hn9 H1 R1 hxs hI hEnc hE9;obtain ⟨vr,ve,sr,se,rfl,hO,rfl⟩:=hEnc;obtain ⟨bx,vr2,ve2,hvv,rfl,rfl⟩:=hE9;simp at hvv;obtain ⟨rfl,rfl⟩:=hvv;obtain ⟨v2,s2,rfl,hr2⟩:=hI;obtain ⟨qe,ce,rfl⟩:=hO.2.form;obtain ⟨q2,c2,rfl⟩:=hr2.form;have hpl:=congrArg List.length hxs
  rw [tK,tY,show tcs.length=16 from rfl]at hpl;have hol:=Ho hs (x.1:Int) x.2
  have hou:Dn (sr++se) (.slice qe (BC rs (x.1:Int) x.2).length ce) (Js (BC rs (x.1:Int) x.2)):=(Fy (BO hO.2 (EQ _).symm rfl) (by rw [EQ];omega)).mono (fun c h=>tZ _ h);refine AQ<|Zq<|Zg<|Zh 1 underlying187 rfl rfl sizeOf47 Y<|Zl isAgg47 Y ?_;refine Zv (AV underlying47 Y)<|Xr [_] Y call102 Y rfl (Kk _ (by omega) (by omega)) ?_;refine Zm Y<|Zd Y rfl<|Zd Y rfl<|Za Y<|Za Y<|Z0<|Zx<|BI (n:=9) (0::0::0::4::12::30::62::127::255::[]) 464 (by kernel_rfl) (by kernel_rfl) rfl ?_;refine Zj 1 0 rfl isAgg47 Y ?_;refine Zi 3 1 rfl (AJ Y)<|Zi 7 2 rfl (AZ (off:=1) underlying187 rfl rfl sizeOf47 Y)<|Zj 15 3 rfl isAgg47 Y ?_;refine Yz 4 12 31 [3,0] [false,true] [(0,(_,_))] rfl Y rfl rfl rfl rfl (Zu [_] Y call100 Y rfl (Jc hou (by rw [EQ];omega) (fun s h=>by have:=PV (fun r hr=>hok r (Ih hr)) s h;omega) Tg zg)) ?_;rintro _ _ ⟨rfl,rfl⟩;refine ⟨Zk (Ad),?_⟩;refine Zi 63 5 rfl (Dc Y Y (by rw [Ba,Ba,Ei];have:=GR ((BC rs (x.1:Int) x.2).length:Int) (by omega) (by omega);omega)) ?_;refine Yz 6 62 127 [0] [true] [(0,(_,_))] rfl Y rfl rfl rfl rfl (Ae (vs:=[_]) (cs:=[_]) underlying47 sizeOf9 zeroValue9 Y rfl rfl rfl rfl rfl) ?_;rintro _ _ ⟨b3,rfl,rfl⟩;refine ⟨Zk (Ad),?_⟩;refine Yw 7 255 rfl (DF (by_:=16) (sz:=1) (news:=[_]) underlying47 (rfl:Tryz.prog.info? 9=some Tryz.t9) rfl rfl rfl rfl Y hr2 Y Wo Wh (by rfl) rfl (by simp [Value.oneCell']) (by decide) (by omega) (by omega)) ?_;rintro _ _ ⟨sw5,hrw5,rfl⟩;obtain ⟨gw5,cw5,rfl⟩:=hrw5.form;refine Yw 8 511 rfl (Zs sizeOf47 Y Y rfl (hi:=by first|omega|decide|(simp;done))) ?_;rintro _ _ ⟨rfl,rfl⟩;refine Am ?_;refine Zn [] ?_;refine A8 ?_;refine Ji rfl (by exact ⟨_,_,rfl,BO hrw5 (by simp) (by simp [XP,Dx,E8])⟩)
 intro D1 H2 hI2;obtain ⟨v2,s2,rfl,hr2⟩:=hI2;refine Zn [3] ?_;refine A8<|Zx<|Zq<|Zg<|Zl isAgg47 Y ?_;refine Za Y<|Z0<|Zx<|A9 ?_;refine Jj rfl (VV results101 Y) Wo (by exact ⟨s2,hr2,rfl⟩)
end Go.Proofs.YtkdgffcfmgmemaaGreatDoor
