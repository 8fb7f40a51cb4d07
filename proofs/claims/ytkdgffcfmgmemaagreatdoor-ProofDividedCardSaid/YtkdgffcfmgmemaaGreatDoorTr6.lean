/- digest.Verify. -/
/- Rows encoded; the orders of a state, its summaries and its root. -/
/- All orders; the summaries; the root of a state. -/
import Derived.Test.YtkdgffcfmgmemaaGreatDoorEz
import Derived.Test.YtkdgffcfmgmemaaGreatDoorTr3
import Derived.Test.YtkdgffcfmgmemaaGreatDoorEx25
set_option linter.unusedVariables false
set_option linter.unusedSimpArgs false
namespace Go.Proofs.YtkdgffcfmgmemaaGreatDoor
open Go.Proofs.Tryz
open Go Go.RowKit Gw
set_option maxRecDepth 100000
attribute [local irreducible] Gw.At Gw.Nx Gw.Ops
def PY(s:Bs):Bool:=!decide (s.length=32)
theorem fq{α:Type}(p:α→Bool)(ls:List α)(i:Nat)(x:α)(hx:ls[i]?=some x):(ls.take (i+1)).any p=((ls.take i).any p||p x):=by rw [Bu hx,List.any_append];simp
theorem oH{α:Type}(p:α→Bool)(ls:List α)(i:Nat)(x:α)(hx:ls[i]?=some x)(h:p x=true):ls.any p=true:=AA7.2 ⟨x,uI hx,h⟩
def IC(x:Bs×Bool)(o:Bs):Bs:=if x.2 then GQ x.1 o else GQ o x.1
theorem qF{x:Bs}{f:Bool}{o:Bs}(h:f=true):IC (x,f) o=GQ x o:=if_pos h
theorem qG{x:Bs}{f:Bool}{o:Bs}(h:f=false):IC (x,f) o=GQ o x:=if_neg (by simp [h])
def Ov(l:List (Bs×Bool)):List Value:=l.flatMap (fun x=>[E8 x.1,.bool x.2])
theorem Q9(l:List (Bs×Bool))(x:Bs×Bool):Ov (l++[x])=Ov l++[E8 x.1,.bool x.2]:=by unfold Ov;rw [wG];rfl
def NB(s:Bs):Nat→Nat→List Bs→Option Bs
 |n,_,[]=>if n≤1 then some (MJ s)else none
 |n,i,x::rp=>if n≤1 then none else if i<Bw n then(NB s (Bw n) i rp).map (fun v=>GQ v x)else(NB s (n -Bw n) (i -Bw n) rp).map (fun v=>GQ x v)
def Rj(root:Bs)(n i:Nat)(s:Bs)(pf:List Bs):Bool:=!(pf.any PY)&&decide (NB s n i pf.reverse=some root)
theorem lw{s:Bs}{n i:Nat}(h:2≤n):NB s n i []=none:=if_neg (by omega)
theorem ZN{s:Bs}{n i:Nat}(h:n≤1)(rp:List Bs):NB s n i rp=if rp=[]then some (MJ s)else none:=by
 cases rp with
 |nil=>exact if_pos h
 |cons x rp=>exact if_pos h
theorem Si{s x:Bs}{n i:Nat}{rp:List Bs}(h:2≤n)(hi:i<Bw n):NB s n i (x::rp)=(NB s (Bw n) i rp).map (IC (x,false)):=by
 show(if n≤1 then _ else _)=_;rw [if_neg (by omega),if_pos hi];rfl
theorem Q3{s x:Bs}{n i:Nat}{rp:List Bs}(h:2≤n)(hi:¬i<Bw n):NB s n i (x::rp)=(NB s (n -Bw n) (i -Bw n) rp).map (IC (x,true)):=by
 show(if n≤1 then _ else _)=_;rw [if_neg (by omega),if_neg hi];rfl
theorem Vl{l:List Bs}{k:Nat}{x:Bs}(h:l[k]?=some x):(l.take (k+1)).reverse=x::(l.take k).reverse:=by rw [Bu h,xG];rfl
theorem VN(w:List (Bs×Bool))(x:Bs×Bool)(o:Option Bs):(o.map (IC x)).map (fun v=>w.foldr IC v)=o.map (fun v=>(w++[x]).foldr IC v):=by
 cases o with
 |none=>rfl
 |some v=>simp
def lS(M:List AU)(v:Value)(ls:List (Bs×Bool)):Prop:=∃p cap,v= .slice p ls.length cap∧(ls.length≤maxLen∧ls.length≤cap)∧∀(i:Nat) (x:Bs×Bool),ls[i]?=some x→∃g off cur T zz,p=some ⟨g,off,none⟩∧(g,Obj.cells cur T zz)∈M∧off+i*2+2≤cur.size∧cur.extract (off+i*2) (off+i*2+2)=#[E8 x.1,.bool x.2]
theorem Xi{e:TypeId}{v:Value}{ls:List (Bs×Bool)}{s:List AU}(h:BZ 2 e v ls.length (Ov ls) s)(hn:ls.length≤maxLen):lS s v ls:=by
 obtain ⟨b,cap,rfl⟩:=h.form;refine ⟨b,cap,rfl,⟨hn,FL h⟩,fun i x hx=>?_⟩;obtain ⟨g,cap',cur,z,hv,rfl,hsz,hex⟩:=Hu h i (tu.1 hx).1;injection hv with hv1 hv2 hv3
 refine ⟨g,0,cur,e,z,hv1,by simp,by omega,?_⟩;unfold Ov at hex;rw [Gb _ 2 (fun _=>rfl) ls i x hx]at hex;rw [uX];exact wN.1 hex
theorem fB(xs:List (Bs×Bool))(q:Bs):(bwd xs).foldl (fun o (x:Nat×(Bs×Bool))=>IC x.2 o) q=xs.foldr IC q:=by
 have h:(bwd xs).foldl (fun o (x:Nat×(Bs×Bool))=>IC x.2 o) q=((bwd xs).map Prod.snd).foldl (fun o x=>IC x o) q:=by rw [List.foldl_map]
 rw [h,VA,List.foldl_reverse]
theorem jf(s:Bs):(MJ s).length=32:=Lj _
theorem mI(a b:Bs):decide (str a=str b)=(!false&&decide (some a=some b)):=by
 have h:(str a=str b)↔a=b:=⟨fun h=>by rw [←Hr a,←Hr b,h],fun h=>by rw [h]⟩;simp [h]
theorem dx(x:Bs×Bool)(o:Bs):(IC x o).length=32:=by unfold IC;split<;>exact Lj _
theorem fA(xs:List (Nat×(Bs×Bool)))(q:Bs)(hq:q.length=32):(xs.foldl (fun o (x:Nat×(Bs×Bool))=>IC x.2 o) q).length=32:=by
 rcases xU xs with rfl|⟨ys,y,rfl⟩
 · exact hq
 · rw [yP,wW];exact dx _ _
theorem jm(s:Bs):Az Tryz.prog 251 #[.string (str s)] [] (.bool (decide (s.length=32))):=by
 refine Se func251 ntmps251 [0] ?_;intro u R;refine Zq<|Zg<|Za Y<|Z0<|Zx<|Zq<|Zg<|Zm Y<|Zv (ER underlying9 Y)<|Zv (CF (n:=32) Y Y)<|Za Y<|Z0<|Zx<|AA ?_;refine AJ rfl results251 Y (by exact ⟨by rw [Bc],rfl⟩)
theorem jN(s:Bs):Az Tryz.prog 250 #[.string (str s)] [] (.bool (PY s)):=by
 refine Se func250 ntmps250 [0] ?_;intro u R;refine Zq<|Zg<|Za Y<|Z0<|Zx<|Zq<|Zg<|Zm Y<|Xr [_] Y call251 Y rfl (jm s) ?_;refine Zv (CL Y)<|Za Y<|Z0<|Zx<|AA ?_;refine AJ rfl results250 Y (by exact ⟨by unfold PY;rw [decide_not],rfl⟩)
theorem YV{M:List AU}{v:Value}{ls:List Bs}(hv:Du M v ls)(hn:ls.length≤1000000000):CQ Tryz.prog 283 #[v,.func (.func 250) #[] #[]] [M] (fun r H'=>∃k:Int,r=I4 k∧decide (0≤k)=ls.any PY∧H'=[M]):=by
 have hml:=mL;obtain ⟨p,cap,rfl,hl,hg⟩:=hv;refine Se func283 ntmps283 [0,1] ?_;intro u R;refine Zq<|Zg<|Za Y<|Z0<|Zx<|Zq<|Zq<|Zg<|Zm Y<|Zv (AV underlying47 Y)<|Zm Y<|Z0<|Zx<|AR<|Zb [8,0,1,7] ?_;refine BB (e0:=[(8,_)]) (fun m e H=>∃(i:Nat),m=ls.length -i∧(i≤ls.length∧(ls.take i).any PY=false)∧e=[(8,I4 (i:Int))]∧H=[]) (by exact ⟨0,rfl,⟨uK _,rfl⟩,rfl,rfl⟩) Wp ?_;rintro _ _ _ ⟨i,rfl,⟨hi9,hany⟩,rfl,rfl⟩;refine Zq<|Zg<|Zv (Av Y Y)<|Z0<|Zx<|Zq ?_;refine Aq Y (fun hlt=>?_) (fun hlt=>?_)
 ·
  obtain ⟨x,hx⟩:∃x,ls[i]?=some x:=⟨_,tq hlt⟩;obtain ⟨g,off,cur,T,zz,rfl,hm9,hex9⟩:=hg i x hx;refine AB<|Zx<|Zq<|AR<|Zq<|Zg<|Zm Y<|Za Y<|Z0<|Zx<|Zq<|Zg<|Zm Y<|Zm Y<|Zm Y ?_;refine BO (BV underlying47 sizeOf9 Y Y (by omega)) ?_;refine Cm (cs:=[(g,.cells cur T zz)]) (by simp [hm9]) (Bh isAgg9 Y (by exact hex9)) rfl rfl ?_;refine Xr [_] Y call250 Y rfl (jN x) ?_;refine Z0<|Zx ?_;refine Ag Y (fun hlx=>?_) (fun hlx=>?_)
  ·
   refine Zq<|Zg<|Zm Y<|Za Y<|Z0<|Zx<|AA<|AX<|Zt<|Zt<|AX<|Zt ?_;refine AJ rfl results283 Y (by exact ⟨(i:Int),rfl,by rw [oH _ ls i x hx hlx];exact decide_eq_true (by omega),rfl⟩)
  refine AB<|A8<|Zx<|Zg<|Ya (n:=1) Y Y<|Zm Y<|Z0<|Zn [8,0,1,7] ?_;refine Aa (e':=[(8,_)]) (by exact ⟨i+1,rfl,⟨by omega,by rw [fq _ ls i x hx,hany];exact hlx⟩,rfl,rfl⟩)
 have ei:i=ls.length:=by omega
 subst ei;rw [ug]at hany;refine Aw<|Zt<|Zt<|AP<|Zx<|Zq<|Zg<|Za Y<|Z0<|Zx<|AA ?_;refine AJ rfl results283 Y (by exact ⟨-1,rfl,by rw [hany];rfl,rfl⟩)
theorem SE{M:List AU}{v:Value}{ls:List Bs}(hv:Du M v ls)(hn:ls.length≤1000000000):Az Tryz.prog 252 #[v,.func (.func 250) #[] #[]] [M] (.bool (ls.any PY)):=by
 refine Se func252 ntmps252 [0,1] ?_;intro u R;refine Zq<|Zg<|Za Y<|Z0<|Zx<|Zq<|Zg<|Zm Y<|Zm Y<|Zc [_,_] Y call283 Y rfl (YV hv hn) ?_;rintro _ _ ⟨_,⟨k,rfl,hk,rfl⟩,rfl⟩;refine Zv (Gj Y Y)<|Za Y<|Z0<|Zx<|AA ?_;refine AJ rfl results252 Y (by exact ⟨by rw [←hk],rfl⟩)
theorem lK{M:List AU}{v:Value}{ls:List Bs}(hv:Du M v ls)(hn:ls.length≤1000000000):Az Tryz.prog 200 #[v] [M] (.bool (!(ls.any PY))):=by
 refine Se func200 ntmps200 [0] ?_;intro u R;refine Zq<|Zg<|Za Y<|Z0<|Zx<|Zq<|Zg<|Za Y<|Z0<|Zx<|Zq<|Zg<|Zm Y<|Zm Y<|Xr [_,_] Y call252 Y rfl (SE hv hn) ?_;refine Zv (Cg Y)<|Za Y<|Z0<|Zx<|AA ?_;refine AJ rfl results200 Y (by exact ⟨rfl,rfl⟩)
theorem bB(p:Option Addr)(cap:Nat):Az Tryz.prog 201 #[.slice p 0 cap] [] (.tuple #[.string (str []),.slice none 0 0,.bool false]):=by
 refine Se func201 ntmps201 [0] ?_;intro u R;refine Zq<|Zg<|Za Y<|Za Y<|Za Y<|Z0<|Zx<|Zq<|Zq<|Zg<|Zm Y<|Zv (AV underlying47 Y)<|Zv (CF (n:=0) Y Y)<|Z0<|Zx ?_;refine Aq Y (fun h1=>?_) (fun h1=>?_)
 ·
  refine Zq<|Zg<|Za Y<|Za Y<|Za Y<|Z0<|Zx<|AA<|Zt ?_;refine aJ rfl results201 Y Y Y (by exact ⟨rfl,rfl⟩)
 exfalso;omega
theorem bA{M:List AU}{p:Option Addr}{cap:Nat}{ls:List Bs}(hv:Du M (.slice p ls.length cap) ls)(k:Nat)(x:Bs)(hk:ls.length=k+1)(hx:ls[k]?=some x):Az Tryz.prog 201 #[.slice p ls.length cap] [M] (.tuple #[.string (str x),.slice p k cap,.bool true]):=by
 have hml:=mL;obtain ⟨p2,cap2,e,hl,hg⟩:=hv;injection e with e1 e2 e3
 subst e1 e3;rw [hk]at hl⊢;obtain ⟨g,off,cur,T,zz,rfl,hm9,hex9⟩:=hg k x hx;refine Se func201 ntmps201 [0] ?_;intro u R;refine Zq<|Zg<|Za Y<|Za Y<|Za Y<|Z0<|Zx<|Zq<|Zq<|Zg<|Zm Y<|Zv (AV underlying47 Y)<|Zv (CF (n:=0) Y Y)<|Z0<|Zx ?_;refine Aq Y (fun h1=>?_) (fun h1=>?_)
 ·
  exfalso;omega
 refine AB<|Zx<|Zq<|Zg<|Zm Y<|Zv (AV underlying47 Y)<|Yb (n:=1) Y Y<|Za Y<|Z0<|Zx<|Zq<|BK (n:=10) (0::0::3::7::0::0::48::15::255::511::[]) 0 (by kernel_rfl) (by kernel_rfl) rfl ?_;refine Zi 1 0 rfl (AL Y)<|Zi 3 1 rfl (AL Y) ?_;refine Zi 7 2 rfl (BV underlying47 sizeOf9 Y Y (by omega)) ?_;refine G6 (b:=g) (x:= .cells cur T zz) (D':=15) 3 rfl rfl rfl (by simp [hm9]) (Bh isAgg9 Y (by exact hex9)) ?_;refine Zi 31 4 rfl (AL Y)<|Zi 63 5 rfl (AL Y) ?_;refine Zi 127 6 rfl (Bj underlying47 sizeOf9 Y Y (by omega)) ?_;refine Zi 255 7 rfl (Au Y)<|Zi 511 8 rfl (Au Y)<|Zi 1023 9 rfl (Au Y)<|Ao ?_;refine Zn [2,3,4] ?_;refine Zx<|AA ?_;refine aJ rfl results201 Y Y Y (by exact ⟨rfl,rfl⟩)
def oV(pf:List Bs)(k:Nat):Bs:=if k=0 then []else pf.getD (k -1) []
def qy(p:Option Addr)(k cap:Nat):Value:=if k=0 then .slice none 0 0 else .slice p (k -1) cap
theorem gT{M:List AU}{p:Option Addr}{cap:Nat}{pf:List Bs}(hv:Du M (.slice p pf.length cap) pf)(k:Nat)(hk:k≤pf.length):Az Tryz.prog 201 #[.slice p k cap] [M] (.tuple #[.string (str (oV pf k)),qy p k cap,.bool (decide (0<k))]):=by
 rcases k with _|k
 · exact LU (bB p cap)
 · have hx:(pf.take (k+1))[k]?=some (pf.getD k []):=by
    rw [uz,if_pos (by omega),uy,tq (by omega)];rfl
   have hl:(pf.take (k+1)).length=k+1:=by rw [uD];omega
   have h:=hv.take (k+1) hk;have h2:=bA (ls:=pf.take (k+1)) (p:=p) (cap:=cap) (by rw [hl];exact h) k _ hl hx
   rw [hl]at h2;exact h2
theorem YR(x:Bs)(f:Bool)(o:Bs)(hx:x.length≤1000000000)(ho:o.length≤1000000000)(Tg:TypeId)(zg:Nat×Nat):Az Tryz.prog 204 #[.agg #[.string (str x),.bool f],.string (str o)] [[(1,.cells (DC.map Bp).toArray Tg zg)]] (.string (str (IC (x,f) o))):=by
 refine Se func204 ntmps204 [0,1] ?_;intro u R;refine Zq<|Zg<|Ze (Bx #[_,_]) ?_;rintro _ _ ⟨b1,rfl,rfl⟩;refine Za Y<|Z0<|Zx<|Zq<|Zq<|Zg<|Zh 1 underlying261 rfl rfl sizeOf4 Y<|Zl isAgg4 Y ?_;refine Z0<|Zx ?_;refine Ag Y (fun hf=>?_) (fun hf=>?_)
 ·
  refine Zq<|Zg<|Zh 0 underlying261 rfl rfl sizeOf9 Y<|Zl isAgg9 Y ?_;refine Zm Y<|Xr [_,_] Y call194 Y rfl (Lu x o hx ho Tg zg) ?_;refine Za Y<|Z0<|Zx<|AA<|Zt ?_;refine AJ rfl results204 Y (by exact ⟨by rw [qF hf],rfl⟩)
 refine AB<|Zx<|Zq<|Zg<|Zm Y<|Zh 0 underlying261 rfl rfl sizeOf9 Y<|Zl isAgg9 Y ?_;refine Xr [_,_] Y call194 Y rfl (Lu o x ho hx Tg zg) ?_;refine Za Y<|Z0<|Zx<|AA ?_;refine AJ rfl results204 Y (by exact ⟨by rw [qG hf],rfl⟩)
theorem SQ(p:Option Addr)(n c:Nat):CQ Tryz.prog 203 #[.slice p n c] [] (fun r H'=>∃b,r= .func (.func 254) #[] #[I5 b]∧H'=[[(b,.cells #[.slice p n c] 257 (0,0))]]):=by
 refine Se func203 ntmps203 [0] ?_;intro u R;refine Zq<|Zg<|Ze (Bx #[_]) ?_;rintro _ _ ⟨b,rfl,rfl⟩;refine Za Y<|Z0<|Zx<|Zq<|Zg<|Zv (Bt (vs:=[]) (us:=[_]) Y Y) ?_;refine Za Y<|Z0<|Zx<|AA ?_;refine AJ rfl results203 Y (by exact ⟨_,rfl,rfl⟩)
theorem SS{M:List AU}{v:Value}{ls:List (Bs×Bool)}(hv:lS M v ls)(b:Nat)(hn:ls.length≤1000000000000):
 M8 Tryz.prog 254 #[I5 b] [[(b,.cells #[v] 257 (0,0))]] (fun s=>∀c∈M,c∈s) (fun x=>#[I4 ((x.1:Nat):Int),.agg #[E8 x.2.1,.bool x.2.2]]) (bwd ls):=by
 have hml:=mL;obtain ⟨p,cap,rfl,hl,hg⟩:=hv;intro l J hA hy s hJ;refine Se func254 ntmps254 [0,1] ?_;intro u R;refine Zq<|Zg<|Zl isAgg257 Y ?_;refine Zv (AV underlying257 Y) ?_
 (refine BO (GM Y Y (IntWalk.i64_in _ ?_)) ?_;(focus (omega)))
 refine Za Y<|Z0<|Zx<|AR<|Zb [3,0,1] ?_;refine BB (e0:=[(3,_)]) (fun m e H=>∃(k:Nat) (s:List AU),m=0+k∧(k≤ls.length∧J ((bwd ls).take (ls.length -k)) s)∧e=[(3,I4 ((k:Int) -1))]∧H=[[(b,.cells #[.slice p ls.length cap] 257 (0,0))],s]) (by exact ⟨ls.length,s,rfl,⟨uG _,by rw [y8,vI];exact hJ⟩,rfl,rfl⟩) Wp ?_;rintro _ _ _ ⟨k,s,rfl,⟨hk,hJ⟩,rfl,rfl⟩;refine Zq<|Zq<|Zg<|Zm Y<|Zv (Gj Y Y)<|Z0<|Zx ?_;refine Aq Y (fun hlt=>?_) (fun hlt=>?_)
 ·
  obtain ⟨m,rfl⟩:∃m,k=m+1:=⟨k -1,by omega⟩;rw [show(((m+1:Nat):Int) -1)=((m:Nat):Int) by omega];obtain ⟨z9,hz9⟩:∃z9,ls[m]?=some z9:=⟨_,tq (by omega)⟩;have hb9:=Z6 hz9
  obtain ⟨g,o,cur,T,zz,rfl,hm,hex8⟩:=hg m z9 hz9
  (obtain ⟨hsz9,hex9⟩:=hex8)
  have hyk:=hy _ _ _ s (Q7 hb9) hJ;refine AB<|Zx<|Zq<|AR<|Zq<|Zg<|Zm Y<|Zm Y<|Zl isAgg257 Y ?_;refine Zm Y ?_;refine BO (Ac underlying257 sizeOf261 Y Y (by omega)) ?_;refine Cm (cs:=[(g,.cells cur T zz)]) (by simp [hA _ s hJ _ hm]) (AZ (cs:=#[E8 z9.1,.bool z9.2]) isAgg261 sizeOf261 Y (by omega) (by exact hex9)) rfl rfl ?_;refine Ze (N8 (vs:=[_,_]) Y Y (hyk) Wp) ?_;rintro _ _ ⟨_,⟨s',rfl,rfl,hJ'⟩,rfl⟩;refine Zv (Cg Y)<|Z0<|Zx ?_;refine Ag Y (fun hb=>?_) (fun hb=>?_)
  ·
   cases hb
  refine AB<|A8<|Zx<|Zg<|Zm Y ?_
  (refine BO (GM Y Y (IntWalk.i64_in _ ?_)) ?_;(focus (omega)))
  refine Za Y<|Z0<|Zn [3,0,1] ?_;refine Aa (e':=[(3,_)]) (by exact ⟨m,s',rfl,⟨by omega,by rw [show ls.length -m=ls.length -(m+1)+1 by omega,Bu hb9];exact hJ'⟩,rfl,rfl⟩)
 have hk0:k=0:=by omega
 subst hk0;rw [xN,uf (by rw [VB];exact uG _)]at hJ;refine Aw<|Zt<|Zt<|AP ?_;refine He rfl results254 (by exact ⟨s,rfl,hJ⟩)
theorem VQ{M:List AU}{v:Value}{pf:List Bs}(hv:Du M v pf)(hn:pf.length≤1000000)(root s:Bs)(hs:s.length≤140737488354000)(n i:Nat)(hi:i<n)(hb:n≤1000000)(Tg:TypeId)(zg:Nat×Nat):
 Az Tryz.prog 104 #[.string (str root),I4 (n:Int),I4 (i:Int),.string (str s),v] [[(1,.cells (DC.map Bp).toArray Tg zg)],M] (.bool (Rj root n i s pf)):=by
 have hml:=mL;obtain ⟨p,cap,rfl,hl,hg⟩:=id hv;refine GJ func104 rfl ntmps104 rfl ?_;intro u R;refine Zb [0,1,2,3,4] ?_;refine Zq<|Zg<|Za Y<|Z0<|Zx<|Zq<|Zq<|Zg<|Zm Y<|Zv (Av (n:=0) Y Y)<|Zm Y ?_;refine Aj (t:=21) Y rfl (fun h1=>?_) (fun h1=>?_)
 ·
  exfalso;omega
 refine Zf Y Y<|Zf Y Y<|Yg (Fa Y Y)<|Zv (AC Y Y)<|Zm Y ?_;refine Aj (t:=26) Y rfl (fun h2=>?_) (fun h2=>?_)
 ·
  exfalso;omega
 refine Zf Y Y<|Xr [_] Y call200 Y rfl (lK hv (by omega)) ?_;refine Yg (Cg Y)<|Zv (AC Y Y)<|Z0<|Zn [0,1,2,3,4,30] ?_;refine Zx ?_;refine Ag Y (fun ha=>?_) (fun ha=>?_)
 ·
  have ha2:pf.any PY=true:=by simpa using ha
  refine Zq<|Zg<|Za Y<|Z0<|Zx<|AA<|Zt ?_;refine Qu rfl (Vo results104 Y) (by exact ⟨by unfold Rj;rw [ha2];rfl,rfl⟩)
 have ha2:pf.any PY=false:=by simpa using ha
 have h32:∀x∈pf,x.length=32:=fun x hx=>by have h:=List.any_eq_false.1 ha2 x hx;simpa [PY]using h
 refine AB<|Zx<|Zq<|Zg<|Za Y<|Z0<|Zx<|Zq<|AR<|Bf ?_;refine Zb [1,2,4,11,0,3] ?_;refine BB (e0:=[(1,_),(2,_),(4,_),(11,_)]) (fun m e H=>∃(n2 i2 k:Nat) (way:List (Bs×Bool)) (vw:Value) (sw:List AU),m=0+n2∧(k≤pf.length∧i2<n2∧n2≤n∧NB s n i pf.reverse=(NB s n2 i2 (pf.take k).reverse).map (fun v=>way.foldr IC v)∧BZ 2 261 vw way.length (Ov way) sw∧way.length+k=pf.length∧(∀x∈way,x.1.length=32))∧e=[(1,I4 (n2:Int)),(2,I4 (i2:Int)),(4,.slice p k cap),(11,vw)]∧H=[sw]) (by exact ⟨n,i,pf.length,[],.slice none 0 0,[],rfl,⟨uG _,hi,uG _,by rw [ug];simp,Ba 2 _,by simp,by simp⟩,rfl,rfl⟩) Wp ?_;rintro _ _ _ ⟨n2,i2,k,way,vw,sw,rfl,⟨hk,hi2,hn2,hva,hrw,hwk,hw32⟩,rfl,rfl⟩;obtain ⟨qw,cw,rfl⟩:=hrw.form;refine Zq<|Zq<|Zg<|Zm Y<|Zv (DU (n:=1) Y Y)<|Z0<|Zx ?_;refine Aq Y (fun hn9=>?_) (fun hn9=>?_)
 ·
  have h9:2≤n2:=by omega
  have hk1:=Ii h9;have hk2:=IB n2
  have hk3:=nN h9;refine AB<|Zx<|AR<|Zq<|Zg<|Zm Y<|Xr [_] Y call201 Y rfl (gT hv k hk) ?_;refine Zm Y<|Zd Y rfl<|Zd Y rfl<|Zd Y rfl<|Za Y<|Za Y<|Za Y<|Z0<|Zx<|Zq<|Zq<|Zg<|Zm Y<|Zv (CL Y)<|Z0<|Zn [0,1,2,3,11,12,13,40] ?_;refine Zx ?_;refine Aq Y (fun ht=>?_) (fun ht=>?_)
  ·
   have hk0:k=0:=by omega
   subst hk0;rw [vI,List.reverse_nil,lw h9]at hva;refine Zq<|Zg<|Za Y<|Z0<|Zx<|AA<|Zt<|AX<|Zt<|AX<|Zt ?_;refine Qu rfl (Vo results104 Y) (by exact ⟨by unfold Rj;rw [hva,ha2];rfl,rfl⟩)
  obtain ⟨k,rfl⟩:∃m,k=m+1:=⟨k -1,by omega⟩;obtain ⟨x9,hx9⟩:∃x,pf[k]?=some x:=⟨_,tq (by omega)⟩;have hls:oV pf (k+1)=x9:=by show pf.getD k []=x9;rw [uy,hx9];rfl
  have hx32:=h32 x9 (uI hx9);have hw33:∀f:Bool,∀y∈way++[(x9,f)],y.1.length=32:=fun f y hy=>by rcases uQ.1 hy with hy|hy;exact hw32 y hy;rw [uL]at hy;rw [hy];exact hx32
  rw [hls];refine AB<|Zx<|Zq<|Zg<|Zm Y<|Za Y<|Z0<|Zx<|Zq<|Zg<|Zm Y<|Xr [_] Y call202 Y rfl (Tn n2 h9 (by omega)) ?_;refine Za Y<|Z0<|Zx<|Zq<|Zg<|Zm Y<|Zm Y<|Zm Y<|Zm Y<|Zv (Fa Y Y)<|Zv (BL (vs:=[(0,_),(1,_)]) (cs:=#[_,_]) Y (Ab (pl:=#[(0,1),(1,1)]) zeroValue261 underlying261 (fun _=>by kernel_rfl) rfl)) ?_;refine Ze (Af (vs:=[_]) (cs:=[_,_]) underlying257 sizeOf261 zeroValue261 Y rfl rfl rfl rfl rfl) ?_;rintro _ _ ⟨b1,rfl,rfl⟩;refine Ze (DR (by_:=24) (sz:=2) (news:=[_,_]) underlying257 (rfl:Tryz.prog.info? 261=some Tryz.t261) rfl rfl rfl rfl Y hrw Y Wo Wh (by rfl) rfl (by simp [Value.oneCell',Value.cells]) (by decide) (by omega) (by omega)) ?_;rintro _ _ ⟨sw5,hrw5,rfl⟩;obtain ⟨gw5,cw5,rfl⟩:=hrw5.form;refine Za Y<|Z0<|Zn [0,1,2,3,4,11,15] ?_;refine Zx<|Zq<|Zg<|Zm Y<|Zm Y<|Zv (Fa Y Y)<|Z0<|Zx ?_;refine Aq Y (fun hge=>?_) (fun hge=>?_)
  ·
   have hgd:decide (Bw n2≤i2)=true:=decide_eq_true hge;refine Zg<|Zm Y<|Zm Y<|Yb Y Y<|Zm Y<|Zm Y<|Yb Y Y<|Za Y<|Za Y<|Z0<|A8<|Zn [1,2,4,11,0,3] ?_;refine Aa (e':=[(1,_),(2,_),(4,_),(11,_)]) (by exact ⟨n2 -Bw n2,i2 -Bw n2,k,way++[(x9,true)],_,_,rfl,⟨by omega,by omega,by omega,by rw [hva,Vl hx9,Q3 h9 (by omega),VN],BP hrw5 (by simp) (by rw [Q9];exact congrArg (fun b=>Ov way++[E8 x9,.bool b]) hgd),by rw [u6];simp;omega,hw33 true⟩,rfl,rfl⟩)
  have hgd:decide (Bw n2≤i2)=false:=decide_eq_false hge;refine Zg<|Zm Y<|Za Y<|Z0<|A8<|Zn [1,2,4,11,0,3] ?_;refine Aa (e':=[(1,_),(2,_),(4,_),(11,_)]) (by exact ⟨Bw n2,i2,k,way++[(x9,false)],_,_,rfl,⟨by omega,by omega,by omega,by rw [hva,Vl hx9,Si h9 (by omega),VN],BP hrw5 (by simp) (by rw [Q9];exact congrArg (fun b=>Ov way++[E8 x9,.bool b]) hgd),by rw [u6];simp;omega,hw33 false⟩,rfl,rfl⟩)
 refine Aw<|Zt<|Zt<|AP<|Zx<|Zq<|Zg<|Zm Y<|Xr [_] Y call193 Y rfl (Tp s hs Tg zg) ?_;refine Ze (Al zeroValue9 #[_]) ?_;rintro _ _ ⟨ob,rfl,rfl⟩;refine Xe (Zs sizeOf9 Y Y rfl (hc:=by exact (rfl:_=(#[E8 (MJ s)]:Array Value)))) ?_;refine Z0<|Zx<|Zq<|Zq<|Zg<|Zm Y<|Zc [_] Y call203 Y rfl (SQ _ _ _) ?_;rintro _ _ ⟨_,⟨bb,rfl,rfl⟩,rfl⟩;refine Z0<|Zx<|AR<|Zb [0,4,16,65] ?_;refine VE (H0:=_) (R:=_) (I:=(fun pre H=>H=[[(ob,.cells #[E8 (pre.foldl (fun o (x:Nat×(Bs×Bool))=>IC x.2 o) (MJ s))] 9 (0,0))],sw,[(1,.cells (DC.map Bp).toArray Tg zg)]])) (E:=fun x e Hn=>∃bx,e=[(18,I5 bx),(67,.agg #[E8 x.2.1,.bool x.2.2]),(66,I4 ((x.1:Nat):Int))]∧Hn=[[(bx,.cells #[E8 x.2.1,.bool x.2.2] 261 (0,0))]]) rfl Y call254 (SS (ls:=way) (Xi hrw (by omega)) bb (by omega)) (fun pre H1 c d h=>by subst h;intro x hx;simp [hx]) Y rfl Wp (rfl) ?ha_7 ?hbd_7 ?hk_7
 case ha_7=>
  intro _ x _ _;refine Zg<|Ze (Al zeroValue261 #[_,_]) ?_;rintro _ _ ⟨bx,rfl,rfl⟩;refine Xe (BQ sizeOf261 Y Y (by simp [E8,Value.oneCell']) Wu (by exact (rfl:_=(#[E8 x.2.1,.bool x.2.2]:Array Value))) (by first|rfl|(simp;done)) Wn (by exact BS _)) ?_;refine Z0<|jP (e:=[(18,_),(67,_),(66,_)]) (Hn:=[[(_,_)]]) ?_;exact ⟨_,rfl,rfl⟩
 case hbd_7=>
  intro l pre x post u e9 Hn9 H1 R1 hxs hI hE9;obtain ⟨bx,rfl,rfl⟩:=hE9;subst hI;refine AR<|Zg<|Zo Wh (Pa #[_,_] isAgg261 sizeOf261 Y) ?_;refine Zl isAgg9 Y ?_;refine Xr [_,_] Y call204 Y rfl (YR x.2.1 x.2.2 _ (by rw [hw32 _ (ag (Od hxs))];omega) (by rw [fA _ _ (jf s)];omega) Tg zg) ?_;refine Xe (Zs sizeOf9 Y Y rfl) ?_;refine Z0<|A8 ?_;refine Jv rfl (by rw [wW])
 intro D1 H2 hI2;subst hI2;refine Zn [0,4,16] ?_;refine A8<|Zx<|Zq<|Zg<|Zm Y<|Zv (AV underlying47 Y)<|Zv (CF (n:=0) Y Y)<|Zm Y ?_;refine Aj (t:=74) Y rfl (fun hz=>?_) (fun hz=>?_)
 ·
  have hn1:n2≤1:=by omega
  subst hz;rw [ZN hn1,if_pos (by simp)]at hva;refine Yl isAgg9 Y ?_;refine Zf Y Y<|Yg (OZ Y Y)<|Zv (AO Y Y)<|Za Y<|Z0<|Zx<|AA ?_;refine Jw rfl (Vo results104 Y) Wo (by exact ⟨by unfold Rj;rw [ha2,hva,fB];exact congrArg Value.bool (mI _ _),rfl⟩)
 have hn1:n2≤1:=by omega
 rw [ZN hn1,if_neg (by intro e;have e2:(pf.take k).reverse.length=0:=(by rw [e];rfl);rw [xx,uD]at e2;omega)]at hva;refine A7 Y rfl<|A7 Y rfl<|A7 Y rfl<|Zv (AC Y Y)<|Za Y<|Z0<|Zx<|AA ?_;refine Jw rfl (Vo results104 Y) Wo (by exact ⟨by unfold Rj;rw [ha2,hva];rfl,rfl⟩)
def JI(r:AQ):Bs:=Ca [r.t,r.k]++Ca [r.v.a,r.v.b,r.v.c]
theorem NN{r:AQ}(h:r.ok):(∀n∈[r.t,r.k],-4611686018427387903≤n∧n≤4611686018427387903)∧(∀n∈[r.v.a,r.v.b,r.v.c],-4611686018427387903≤n∧n≤4611686018427387903):=by
 obtain ⟨⟨h1,h2,h3⟩,h4,h5⟩:=h;unfold inV at h1 h2 h3;constructor
 · intro n hn
   simp only [uV,wC,or_false]at hn;rcases hn with rfl|rfl<;>omega
 · intro n hn
   simp only [uV,wC,or_false]at hn;rcases hn with rfl|rfl|rfl<;>omega
theorem RS{r:AQ}(h:r.ok):(JI r).length≤45:=by
 have h1:=D6 _ (NN h).1;have h2:=D6 _ (NN h).2
 unfold JI;rw [u6];simp only [uJ,vT]at h1 h2;omega
theorem jo(a b:Int):H8 #[I4 a,I4 b] 0 [a,b]:=by
 intro i n h;rcases i with _|_|i
 · simp at h;subst h;rfl
 · simp at h;subst h;rfl
 · simp at h
theorem nZ(r:AQ):H8 #[I4 r.t,I4 r.k,I4 r.v.a,I4 r.v.b,I4 r.v.c] 2 [r.v.a,r.v.b,r.v.c]:=by
 intro i n h;rcases i with _|_|_|i
 · simp at h;subst h;rfl
 · simp at h;subst h;rfl
 · simp at h;subst h;rfl
 · simp at h
theorem Sv(r:AQ)(hr:r.ok):Az Tryz.prog 103 #[.agg #[I4 r.t,I4 r.k,I4 r.v.a,I4 r.v.b,I4 r.v.c]] [] (.tuple #[.string (str (JI r)),I4 0]):=by
 have hn:=NN hr;have hl1:=D6 _ hn.1
 have hl2:=D6 _ hn.2;simp only [uJ,vT]at hl1 hl2;refine Se func103 ntmps103 [0] ?_;intro u R;refine Zq<|Zg<|Ze (Bx #[_,_,_,_,_]) ?_;rintro _ _ ⟨xb,rfl,rfl⟩;refine Za Y<|Za Y<|Z0<|Zx<|Zq<|Zq<|Zg<|Zo Wh (Pa #[_,_,_,_,_] isAgg113 sizeOf113 Y) ?_;refine Xr [_] Y call186 Y rfl (QE r) ?_;rw [decide_eq_true hr];refine Zv (Cg Y)<|Z0<|Zx ?_;refine Ag Y (fun hv=>?_) (fun hv=>?_)
 ·
  cases hv
 refine AB<|Zx<|Zq<|BK (n:=12) (0::1::0::4::15::31::0::64::255::511::1023::2047::[]) 304 (by kernel_rfl) (by kernel_rfl) rfl ?_;refine Zi 1 0 rfl (AY (off:=0) underlying113 rfl rfl sizeOf3 Y)<|Zj 3 1 rfl isAgg3 Y ?_;refine Zi 7 2 rfl (AY (off:=1) underlying113 rfl rfl sizeOf3 Y)<|Zj 15 3 rfl isAgg3 Y ?_;refine Zi 79 6 rfl (AY (off:=2) underlying113 rfl rfl sizeOf75 Y)<|Zi 207 7 rfl (FB underlying75 sizeOf3 Y)<|Zz (l:=[4]) ?_;refine Zy 15 223 [3,1] [false,false] [] rfl Y rfl rfl rfl rfl (Af (vs:=[_,_]) (cs:=[_,_]) underlying210 sizeOf3 zeroValue3 Y rfl rfl rfl rfl rfl) ?hk_1 (fun _ _ h=>h.elim) ?hl_1
 case hk_1=>
  rintro _ _ ⟨gb,rfl,rfl⟩;refine ⟨Ad,?_⟩;refine Yw 5 255 rfl (Zu [_] Y call199 Y rfl (QH gb 0 2 _ _ _ [r.t,r.k] (jo r.t r.k) (by simp) hn.1)) ?_;rintro _ _ ⟨rfl,rfl⟩;refine Yw 8 511 rfl (Zu [_] Y call199 Y rfl (QH xb 2 3 _ _ _ [r.v.a,r.v.b,r.v.c] (nZ r) (by simp) hn.2)) ?_;rintro _ _ ⟨rfl,rfl⟩;refine Zi 1023 9 rfl (Dk Y Y (by rw [Bc,Bc];omega)) ?_;refine Zi 2047 10 rfl (Au Y)<|Zi 4095 11 rfl (Au Y)<|Ao ?_;refine Zn [2,3] ?_;refine Zx<|AA ?_;refine Dh rfl results103 Y Y (by exact ⟨by rw [EE];rfl,rfl⟩)
 exact Ap
def BD(rs:List AQ)(t:Int)(c:Nat):List AQ:=Cn rs t c (-1000000000) 1000000000
theorem I7{rs:List AQ}(hs:BJ rs)(t:Int)(c:Nat):(BD rs t c).length≤rs.length:=by
 unfold BD;rw [(ES rs t c _ _).length_eq];exact wK _ _
theorem Ir{rs:List AQ}{t:Int}{c:Nat}{lo hi:Int}{r:AQ}(h:r∈Cn rs t c lo hi):r∈rs:=(wF.1 ((ES rs t c lo hi).mem_iff.1 h)).1
def K9(l:List AQ):List Bs:=l.map JI
theorem EW(l:List AQ):(K9 l).length=l.length:=u7 ..
theorem XB{l:List AQ}{i:Nat}{x:AQ}(h:l[i]?=some x):(K9 (l.take (i+1))).map E8=(K9 (l.take i)).map E8++[.string (str (JI x))]:=by
 rw [Bu h];unfold K9;rw [uW,uW];rfl
def lT(l:List AQ)(vr ve:Value)(sr se:List AU):Prop:=BZ 5 113 vr (l).length (Ae (l)) sr∧BZ 1 9 ve l.length ((K9 l).map E8) se
theorem Qp(v:Value)(p:Int)(rs:List AQ)(s:List AU)(hv:Nv v p rs s)(hs:BJ rs)(hn:rs.length≤2000)(hok:∀r∈rs,r.ok)(t:Int)(c:Nat)(hc:c≤3):
 CQ Tryz.prog 115 #[v,I4 t,I4 (c:Int)] [s] (fun r H'=>∃vr ve sr se,r= .agg #[vr,ve]∧lT (BD rs t c) vr ve sr se∧H'=[sr,se,s]):=by
 have hml:=mL;have hll:=I7 hs t c
 refine Se func115 ntmps115 [0,1,2] ?_;intro u R;refine Zq<|Zg<|Ze (Al zeroValue187 #[_,_]) ?_;rintro _ _ ⟨qb,rfl,rfl⟩;refine Z0<|Zx<|Zq<|Zg<|Zm Y<|Zm Y<|Zm Y<|Zc [_,_,_,_,_] Y call53 Y rfl (VV v p rs s hv t c (-1000000000) 1000000000 hc) ?_;rintro _ _ ⟨_,⟨sr,hrr,rfl⟩,rfl⟩;change BZ 5 113 _ (BD rs t c).length (Ae (BD rs t c)) sr at hrr;obtain ⟨qr,cr,rfl⟩:=hrr.form;have hRU:=Cz hrr (by omega)
 obtain ⟨p9,cap9,e9,hol,hg⟩:=id hRU;injection e9 with e91 e92 e93
 subst e91 e93;refine Zv (BL (vs:=[(0,_)]) (cs:=#[_,_]) Y (Ab (pl:=#[(0,1),(1,1)]) zeroValue187 underlying187 (fun _=>by kernel_rfl) rfl)) ?_;refine Ze (Al zeroValue187 #[_,_]) ?_;rintro _ _ ⟨ob,rfl,rfl⟩;refine Xe (BQ sizeOf187 Y Y (by(simp [Value.oneCell',Value.cells];done)) Wu (by exact (rfl:_=(#[.slice qr (BD rs t c).length cr,.slice none 0 0]:Array Value))) (by first|rfl|(simp;done)) Wb (by exact BS _)) ?_;refine Z0<|Zx<|Zq<|Zq<|Zg<|Zh 0 underlying187 rfl rfl sizeOf45 Y<|Zl isAgg45 Y ?_;refine Zv (AV underlying45 Y)<|Zm Y<|Z0<|Zx<|AR<|Bf ?_;refine Zb [20,6,7,18,19] ?_;refine BB (e0:=[(20,_)]) (fun m e H=>∃(i:Nat) (ve:Value) (se:List AU),m=(BD rs t c).length -i∧(i≤(BD rs t c).length∧BZ 1 9 ve i ((K9 ((BD rs t c).take i)).map E8) se)∧e=[(20,I4 (i:Int))]∧H=[[(ob,.cells #[.slice qr (BD rs t c).length cr,ve] 187 (0,0))],se]) (by exact ⟨0,.slice none 0 0,[],rfl,⟨uK _,Ba 1 _⟩,rfl,rfl⟩) Wp ?_;rintro _ _ _ ⟨i,ve,se,rfl,⟨hi,hre⟩,rfl,rfl⟩;obtain ⟨qe,ce,rfl⟩:=hre.form;refine Zq<|Zg<|Zv (Av Y Y)<|Z0<|Zx<|Zq ?_;refine Aq Y (fun hlt=>?_) (fun hlt=>?_)
 ·
  obtain ⟨x,hx⟩:∃x,(BD rs t c)[i]?=some x:=⟨_,tq hlt⟩;obtain ⟨g,off,cur,T,zz,rfl,hm9,hsz9,hex9⟩:=hg i x hx;have hxo:=hok x (Ir (uI hx))
  refine AB<|Zx<|Zq<|AR<|Zq<|Zg ?_;refine BO (Ac underlying45 sizeOf113 Y Y (by first|omega|decide|(simp;done))) ?_;refine Cm (cs:=[(g,.cells cur T zz)]) (by simp [hm9]) (AZ (cs:=#[I4 x.t,I4 x.k,I4 x.v.a,I4 x.v.b,I4 x.v.c]) isAgg113 sizeOf113 Y (by omega) hex9) rfl rfl ?_;refine Ze (Al zeroValue113 #[_,_,_,_,_]) ?_;rintro _ _ ⟨xb,rfl,rfl⟩;refine Xe (Xw sizeOf113 #[I4 x.t,I4 x.k,I4 x.v.a,I4 x.v.b,I4 x.v.c]) ?_;refine Z0<|Zx<|Zq<|Zg<|Zo Wh (Pa #[_,_,_,_,_] isAgg113 sizeOf113 Y) ?_;refine Xr [_] Y call103 Y rfl (Sv x hxo) ?_;refine Zm Y<|Zd Y rfl<|Zd Y rfl<|Za Y<|Za Y<|Z0<|Zx<|Zg<|Zh 1 underlying187 rfl rfl sizeOf47 Y<|Zl isAgg47 Y ?_;refine Zm Y<|Ze (Af (vs:=[_]) (cs:=[_]) underlying47 sizeOf9 zeroValue9 Y rfl rfl rfl rfl rfl) ?_;rintro _ _ ⟨b4,rfl,rfl⟩;refine Ze (DR (by_:=16) (sz:=1) (news:=[_]) underlying47 (rfl:Tryz.prog.info? 9=some Tryz.t9) rfl rfl rfl rfl Y hre Y Wo Wh (by rfl) rfl (by simp [Value.oneCell']) (by decide) (by omega) (by omega)) ?_;rintro _ _ ⟨sw5,hrw5,rfl⟩;obtain ⟨gw5,cw5,rfl⟩:=hrw5.form;refine Zh 1 underlying187 rfl rfl sizeOf47 Y<|Xe (Zs sizeOf47 Y Y rfl (hc:=by exact (rfl:_=(#[.slice _ (BD rs t c).length cr,_]:Array Value))) (hi:=by first|omega|decide|(simp;done))) ?_;refine Z0<|Zn [6,7,18,19,20] ?_;refine A8<|Zx<|Zg<|Ya (n:=1) Y Y<|Zm Y<|Z0<|Zn [20,6,7,18,19] ?_;refine Aa (e':=[(20,_)]) (by exact ⟨i+1,_,_,rfl,⟨by omega,BP hrw5 rfl (by rw [XB hx])⟩,rfl,rfl⟩)
 have ei:i=(BD rs t c).length:=by omega
 subst ei;rw [ug]at hre;refine Aw<|Zt<|Zt<|AP<|Zx<|Zq<|Zg<|Zo Wh (Pa #[_,_] isAgg187 sizeOf187 Y) ?_;refine Xe (BQ sizeOf187 Y Y (by(simp [Value.oneCell',Value.cells];done)) Wu (by exact (rfl:_=(#[.slice qr (BD rs t c).length cr,.slice qe _ ce]:Array Value))) (by first|rfl|(simp;done)) Wb (by exact BS _)) ?_;refine Z0<|Zx<|AA ?_;refine DK rfl results115 Y Wh (Ah isAgg187 sizeOf187 Wn (rfl)) (by exact ⟨.slice qr _ cr,.slice qe _ ce,sr,se,rfl,⟨hrr,hre⟩,rfl⟩)
theorem WL(v:Value)(p:Int)(rs:List AQ)(s:List AU)(hv:Nv v p rs s)(hs:BJ rs)(hn:rs.length≤2000)(hok:∀r∈rs,r.ok)(t:Int)(c:Nat)(hc:c≤3):
 CQ Tryz.prog 115 #[v,I4 t,I4 (c:Int)] [s] (fun r H'=>∃vr ve sr se,r= .agg #[vr,ve]∧lT (BD rs t c) vr ve sr se∧H'=[sr++se,s]):=by
 refine EP (Qp v p rs s hv hs hn hok t c hc) rfl ?_;rintro r H' ⟨vr,ve,sr,se,rfl,h,rfl⟩;exact ⟨_,⟨vr,ve,sr,se,rfl,h,rfl⟩,by simp⟩
def tcs:List (Nat×Nat):=(List.range 4).flatMap fun t=>(List.range 4).map fun c=>(t,c)
theorem gQ:∀t,t<4→∀c,c<4→tcs[4*t+c]?=some (t,c):=by decide
def Xd(rs:List AQ)(x:Nat×Nat):Bs:=LQ ((BD rs (x.1:Int) x.2).length:Int)++Cu (K9 (BD rs (x.1:Int) x.2))
def NE(rs:List AQ):List Bs:=tcs.map (Xd rs)
def Df(rs:List AQ):Bs:=Cu (NE rs)
def tZ(rs:List AQ)(x:Nat×Nat)(vs:Array Value)(sx:List AU):Prop:=∃vr ve sr se,vs=#[.agg #[vr,ve]]∧lT (BD rs (x.1:Int) x.2) vr ve sr se∧sx=sr++se
theorem Pp{l:List AQ}(h:∀r∈l,r.ok):∀s∈K9 l,s.length≤45:=by
 intro s hs;obtain ⟨r,hr,rfl⟩:=vD.1 hs;exact RS (h r hr)
theorem VS{rs:List AQ}(hs:BJ rs)(hn:rs.length≤2000)(x:Nat×Nat):(Xd rs x).length≤41:=by
 have h1:=I7 hs (x.1:Int) x.2;have h2:=Gf ((BD rs (x.1:Int) x.2).length:Int) (by omega) (by omega)
 unfold Xd;rw [u6,Eo];omega
theorem WJ(q:Option Addr):CQ Tryz.prog 197 #[.pointer q] [] (fun r H'=>∃b,r= .func (.func 248) #[] #[I5 b]∧H'=[[(b,.cells #[.pointer q] 33 (0,0))]]):=by
 refine Se func197 ntmps197 [0] ?_;intro u R;refine Zq<|Zg<|Ze (Bx #[_]) ?_;rintro _ _ ⟨b,rfl,rfl⟩;refine Za Y<|Z0<|Zx<|Zq<|Zg<|Zv (Bt (vs:=[]) (us:=[_]) Y Y) ?_;refine Za Y<|Z0<|Zx<|AA ?_;refine AJ rfl results197 Y (by exact ⟨_,rfl,rfl⟩)
theorem WK(v:Value)(p:Int)(rs:List AQ)(s:List AU)(hv:Nv v p rs s)(hs:BJ rs)(hn:rs.length≤2000)(hok:∀r∈rs,r.ok)(b:Nat):
 UC Tryz.prog 248 #[I5 b] [[(b,.cells #[v] 33 (0,0))]] [s] (tZ rs) tcs:=by
 have hml:=mL;intro l J hy s0 hJ;refine Se func248 ntmps248 [0,1] ?_;intro u R;refine Zq<|Zg<|Zm Y<|Z0<|Zx<|AR<|Zb [5,0,1] ?_;refine BB (e0:=[(5,_)]) (fun m e H=>∃(t:Nat) (s2:List AU),m=4 -t∧(t≤4∧J (tcs.take (4*t)) s2)∧e=[(5,I4 (t:Int))]∧H=[s2]) (by exact ⟨0,s0,rfl,⟨by omega,hJ⟩,rfl,rfl⟩) Wp ?_;rintro _ _ _ ⟨t,s2,rfl,⟨ht,hJ2⟩,rfl,rfl⟩;refine Zq<|Zg<|Zv (Av (n:=4) Y Y)<|Z0<|Zx<|Zq ?_;refine Aq Y (fun ht4=>?_) (fun ht4=>?_)
 ·
  refine AB<|Zx<|Zq<|AR<|Zq<|Zg<|Zm Y<|Za Y<|Z0<|Zx<|Zq<|Zg<|Zm Y<|Z0<|Zx<|AR<|Zb [8,0,1,3,5] ?_;refine BB (e0:=[(8,_)]) (fun m e H=>∃(c:Nat) (s3:List AU),m=4 -c∧(c≤4∧J (tcs.take (4*t+c)) s3)∧e=[(8,I4 (c:Int))]∧H=[s3]) (by exact ⟨0,s2,rfl,⟨by omega,hJ2⟩,rfl,rfl⟩) Wp ?_;rintro _ _ _ ⟨c,s3,rfl,⟨hc,hJ3⟩,rfl,rfl⟩;refine Zq<|Zg<|Zv (Av (n:=4) Y Y)<|Z0<|Zx<|Zq ?_;refine Aq Y (fun hc4=>?_) (fun hc4=>?_)
  ·
   have hx:=gQ t ht4 c hc4;refine AB<|Zx<|Zq<|AR<|Zq<|Zg<|Zm Y<|Za Y<|Z0<|Zx<|Zq<|Zg<|Zm Y<|Zl isAgg33 Y ?_;refine Zm Y<|Zm Y<|Zc [_,_,_] Y call115 Y rfl (WL v p rs s hv hs hn hok (t:Int) c (by omega)) ?_;rintro _ _ ⟨_,⟨vr,ve,sr,se,rfl,hO,rfl⟩,rfl⟩;have hyk:=hy _ _ _ s3 #[.agg #[vr,ve]] (sr++se) (Q7 hx) hJ3 ⟨vr,ve,sr,se,rfl,hO,rfl⟩
   refine Ze (N8 (vs:=[_]) Y Y (hyk) Wp) ?_;rintro _ _ ⟨_,⟨s4,rfl,rfl,hJ4⟩,rfl⟩;refine Zv (Cg Y)<|Z0<|Zx ?_;refine Ag Y (fun hb=>?_) (fun hb=>?_)
   ·
    cases hb
   refine AB<|A8<|Zx<|Zg<|Ya (n:=1) Y Y<|Zm Y<|Z0<|Zn [8,0,1,3,5] ?_;refine Aa (e':=[(8,_)]) (by exact ⟨c+1,s4,rfl,⟨by omega,by rw [←yj,Bu hx];exact hJ4⟩,rfl,rfl⟩)
  refine Aw<|Zt<|Zt<|AP<|A8<|Zx<|Zg<|Ya (n:=1) Y Y<|Zm Y<|Z0<|Zn [5,0,1] ?_;refine Aa (e':=[(5,_)]) (by exact ⟨t+1,s3,rfl,⟨by omega,by rw [Nat.mul_add,xB];have e4:c=4:=(by omega);subst e4;exact hJ3⟩,rfl,rfl⟩)
 have e4:t=4:=by omega
 subst e4;refine Aw<|Zt<|Zt<|AP ?_;refine He rfl results248 (by exact ⟨s2,rfl,hJ2⟩)
theorem Sl(v:Value)(p:Int)(rs:List AQ)(s:List AU)(hv:Nv v p rs s)(hs:BJ rs)(hn:rs.length≤2000)(hok:∀r∈rs,r.ok)(Tg:TypeId)(zg:Nat×Nat):
 CQ Tryz.prog 101 #[v] [[(1,.cells (DC.map Bp).toArray Tg zg)],s] (fun r H'=>∃so,BZ 1 9 r 16 ((NE rs).map E8) so∧H'=[so,[(1,.cells (DC.map Bp).toArray Tg zg)],s]):=by
 have hml:=mL;obtain ⟨sp9,mb9,es9,ck9,lm9,rfl,hst9⟩:=id hv;refine GJ func101 rfl ntmps101 rfl ?_;intro u R;refine Zb [0] ?_;refine Zq<|Zg<|Za Y<|Z0<|Zx<|Zq<|Zg<|Ze (Al zeroValue47 #[_]) ?_;rintro _ _ ⟨ob,rfl,rfl⟩;refine Z0<|Zx<|Zq<|Zq<|Zg<|Zm Y<|Zc [_] Y call197 Y rfl (WJ _) ?_;rintro _ _ ⟨_,⟨bb,rfl,rfl⟩,rfl⟩;refine Z0<|Zx<|AR<|Zb [3,8] ?_;refine Bf ?_;refine VF (H0:=_) (R:=_) (I:=(fun pre H=>∃v2 s2,H=[[(ob,.cells #[v2] 47 (0,0))],s2,[(1,.cells (DC.map Bp).toArray Tg zg)]]∧BZ 1 9 v2 pre.length ((pre.map (Xd rs)).map E8) s2)) (E:=fun x vs sx e Hn=>∃bx vr ve,vs=#[.agg #[vr,ve]]∧e=[(4,I5 bx),(9,.agg #[vr,ve])]∧Hn=[[(bx,.cells #[vr,ve] 187 (0,0))]]) rfl Y call248 (WK _ p rs s hv hs hn hok bb) (fun x vs sx h=>by obtain ⟨vr,ve,sr,se,rfl,_⟩:=h;rfl) rfl Wp (⟨_,[],rfl,Ba 1 _⟩) ?ha_2 ?hbd_2 ?hk_2
 case ha_2=>
  intro _ x vs sx _ _ hEnc;obtain ⟨vr,ve,sr,se,rfl,hO,rfl⟩:=hEnc;refine Zg<|Ze (Al zeroValue187 #[_,_]) ?_;rintro _ _ ⟨bx,rfl,rfl⟩;refine Xe (BQ sizeOf187 Y Y (by obtain ⟨q1,c1,rfl⟩:=hO.1.form;obtain ⟨q2,c2,rfl⟩:=hO.2.form;simp [Value.oneCell',Value.cells]) Wu (by exact (rfl:_=(#[vr,ve]:Array Value))) (by first|rfl|(simp;done)) Wb (by exact BS _)) ?_;refine Z0<|jP (e:=[(4,_),(9,_)]) (Hn:=[[(_,_)]]) ?_;exact ⟨_,_,_,rfl,rfl,rfl⟩
 case hbd_2=>
  intro l pre x post u vs sx e9 Hn9 H1 R1 hxs hI hEnc hE9;obtain ⟨vr,ve,sr,se,rfl,hO,rfl⟩:=hEnc;obtain ⟨bx,vr2,ve2,hvv,rfl,rfl⟩:=hE9;simp at hvv;obtain ⟨rfl,rfl⟩:=hvv;obtain ⟨v2,s2,rfl,hr2⟩:=hI;obtain ⟨qe,ce,rfl⟩:=hO.2.form;obtain ⟨q2,c2,rfl⟩:=hr2.form;have hpl:=congrArg List.length hxs
  rw [u6,uJ,show tcs.length=16 from rfl]at hpl;have hol:=I7 hs (x.1:Int) x.2
  have hou:Du (sr++se) (.slice qe (BD rs (x.1:Int) x.2).length ce) (K9 (BD rs (x.1:Int) x.2)):=(GH (BP hO.2 (EW _).symm rfl) (by rw [EW];omega)).mono (fun c h=>uN _ h);refine AR<|Zq<|Zg<|Zh 1 underlying187 rfl rfl sizeOf47 Y<|Zl isAgg47 Y ?_;refine Zv (AV underlying47 Y)<|Xr [_] Y call102 Y rfl (L8 _ (by omega) (by omega)) ?_;refine Zm Y<|Zd Y rfl<|Zd Y rfl<|Za Y<|Za Y<|Z0<|Zx<|BK (n:=9) (0::0::0::4::12::30::62::127::255::[]) 464 (by kernel_rfl) (by kernel_rfl) rfl ?_;refine Zj 1 0 rfl isAgg47 Y ?_;refine Zi 3 1 rfl (AL Y)<|Zi 7 2 rfl (AY (off:=1) underlying187 rfl rfl sizeOf47 Y)<|Zj 15 3 rfl isAgg47 Y ?_;refine Yz 4 12 31 [3,0] [false,true] [(0,(_,_))] rfl Y rfl rfl rfl rfl (Zu [_] Y call100 Y rfl (Jp hou (by rw [EW];omega) (fun s h=>by have:=Pp (fun r hr=>hok r (Ir hr)) s h;omega) Tg zg)) ?_;rintro _ _ ⟨rfl,rfl⟩;refine ⟨Zk (Ad),?_⟩;refine Zi 63 5 rfl (Dk Y Y (by rw [Bc,Bc,Eo];have:=Gf ((BD rs (x.1:Int) x.2).length:Int) (by omega) (by omega);omega)) ?_;refine Yz 6 62 127 [0] [true] [(0,(_,_))] rfl Y rfl rfl rfl rfl (Af (vs:=[_]) (cs:=[_]) underlying47 sizeOf9 zeroValue9 Y rfl rfl rfl rfl rfl) ?_;rintro _ _ ⟨b3,rfl,rfl⟩;refine ⟨Zk (Ad),?_⟩;refine Yw 7 255 rfl (DR (by_:=16) (sz:=1) (news:=[_]) underlying47 (rfl:Tryz.prog.info? 9=some Tryz.t9) rfl rfl rfl rfl Y hr2 Y Wo Wh (by rfl) rfl (by simp [Value.oneCell']) (by decide) (by omega) (by omega)) ?_;rintro _ _ ⟨sw5,hrw5,rfl⟩;obtain ⟨gw5,cw5,rfl⟩:=hrw5.form;refine Yw 8 511 rfl (Zs sizeOf47 Y Y rfl (hi:=by first|omega|decide|(simp;done))) ?_;rintro _ _ ⟨rfl,rfl⟩;refine Ao ?_;refine Zn [] ?_;refine A8 ?_;refine Jv rfl (by exact ⟨_,_,rfl,BP hrw5 (by simp) (by simp [Xd,E8,EE])⟩)
 intro D1 H2 hI2;obtain ⟨v2,s2,rfl,hr2⟩:=hI2;refine Zn [3] ?_;refine A8<|Zx<|Zq<|Zg<|Zl isAgg47 Y ?_;refine Za Y<|Z0<|Zx<|AA ?_;refine Jw rfl (Vo results101 Y) Wo (by exact ⟨s2,hr2,rfl⟩)
end Go.Proofs.YtkdgffcfmgmemaaGreatDoor
