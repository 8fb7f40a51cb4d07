/- Records in plain words; ValidRecord of the reference. -/
/- The reference of layer 4: place, Get. -/
/- The program's layer 3: within. -/
/- The program's layer 3: ValidChange. -/
/- The program's layer 3: put. -/
/- Rows of several cells, read. -/
import Derived.Test.YtkdgffcfmgmemaaGreatDoorEz
import Derived.Test.YtkdgffcfmgmemaaGreatDoorLg1
set_option linter.unusedVariables false
set_option linter.unusedSimpArgs false
namespace Go.Proofs.YtkdgffcfmgmemaaGreatDoor
open Go.Proofs.Tryz
open Go Go.RowKit Gw
set_option maxRecDepth 100000
attribute [local irreducible] Gw.At Gw.Nx Gw.Ops
def Dh(M:List AR)(v:Value)(cs:List Chg):Prop:=∃p cap,v= .slice p cs.length cap∧cs.length≤maxLen∧∀(i:Nat) (c:Chg),cs[i]?=some c→∃g off cur T zz,p=some ⟨g,off,none⟩∧(g,Obj.cells cur T zz)∈M∧off+i*10+10≤cur.size∧cur.extract (off+i*10) (off+i*10+10)=#[I4 c.t,I4 c.k,.bool c.had,I4 c.o.a,I4 c.o.b,I4 c.o.c,.bool c.has,I4 c.n.a,I4 c.n.b,I4 c.n.c]
def Chg.lt(b c:Chg):Prop:=b.t<c.t∨b.t=c.t∧b.k<c.k
instance(b c:Chg):Decidable (b.lt c):=inferInstanceAs(Decidable (_∨_))
structure ES(p:Int)(cs:List Chg):Prop where
 pos:1≤p∧p≤10000
 len:1≤cs.length∧cs.length≤8
 all:∀(i:Nat) (c:Chg),cs[i]?=some c→c.ok
 ord:∀(i:Nat) (b c:Chg),cs[i]?=some b→cs[i+1]?=some c→b.lt c
noncomputable instance(p:Int)(cs:List Chg):Decidable (ES p cs):=Classical.propDecidable _
theorem LF{cs:List Chg}{i:Nat}{x:Chg}(h:∀(j:Nat) (c:Chg),j<i→cs[j]?=some c→c.ok)(hx:cs[i]?=some x)(ho:x.ok):∀(j:Nat) (c:Chg),j<i+1→cs[j]?=some c→c.ok:=by
 intro j c hj hc;rcases uJ j i with h9|h9
 · exact h j c h9 hc
 · have e:j=i:=by omega
   rw [e,hx]at hc;injection hc with hc;rw [←hc];exact ho
theorem Ko{cs:List Chg}{i:Nat}{x:Chg}(h:∀(j:Nat) (b c:Chg),j+1<i→cs[j]?=some b→cs[j+1]?=some c→b.lt c)(hx:cs[i]?=some x)(ho:i=0∨∃y,cs[i -1]?=some y∧y.lt x):∀(j:Nat) (b c:Chg),j+1<i+1→cs[j]?=some b→cs[j+1]?=some c→b.lt c:=by
 intro j b c hj hb hc;rcases uJ (j+1) i with h9|h9
 · exact h j b c h9 hb hc
 · have e:j+1=i:=by omega
   rw [e,hx]at hc;injection hc with hc
   rcases ho with h0|⟨y,hy,hl⟩
   · omega
   · rw [show i -1=j by omega,hb]at hy;injection hy with hy;rw [hy,←hc];exact hl
theorem O4(p:Int)(q:Option Addr)(cap:Nat)(cs:List Chg)(M:List AR)(hO:Dh M (.slice q cs.length cap) cs):Av Tryz.prog 109 #[.agg #[I4 p,.slice q cs.length cap]] [M] (.bool (decide (ES p cs))):=by
 have hml:=mL;obtain ⟨p9,cap9,e9,hol,hg⟩:=hO;injection e9 with e91 e92 e93
 subst e91 e93;refine Se func109 ntmps109 [0] ?_;intro u R;refine Zq<|Zg<|Ze (Bx #[_,_]) ?_;rintro _ _ ⟨b1,rfl,rfl⟩;refine Za Y<|Z0<|Zx<|Zq<|Zq<|Zg<|Zh 0 underlying73 rfl rfl sizeOf3 Y<|Zl isAgg3 Y ?_;refine Xr [_,_,_] Y call130 Y rfl (Ii _ _ _) ?_;refine Zv (CB Y)<|Zm Y ?_;refine Aj (t:=10) Y rfl (fun hp=>?_) (fun hp=>?_)
 ·
  refine A7 Y rfl<|A7 Y rfl<|A7 Y rfl<|A7 Y rfl<|A7 Y rfl<|Zv (AL Y Y)<|Z0<|Zn [1,16] ?_;refine Zx<|CE Y<|Zq<|Zg<|Za Y<|Z0<|Zx<|A9<|Zt ?_;refine AB rfl results109 Y (by exact ⟨by rw [decide_eq_false (fun h9:ES p cs=>by have h91:=h9.pos;have h92:=h9.len;first|exact hp h91|(apply hl;omega))],rfl⟩)
 refine Yf 1 underlying73 rfl rfl sizeOf71 Y<|Yl isAgg71 Y ?_;refine Yg (AV underlying71 Y)<|Xr [_,_,_] Y call130 Y rfl (Ii _ _ _) ?_;refine Yg (CB Y)<|Zv (AA Y Y)<|Z0<|Zn [1,16] ?_;refine Zx ?_;refine Ao Y (fun hl=>?_) (fun hl=>?_)
 ·
  refine Zq<|Zg<|Za Y<|Z0<|Zx<|A9<|Zt ?_;refine AB rfl results109 Y (by exact ⟨by rw [decide_eq_false (fun h9:ES p cs=>by have h91:=h9.pos;have h92:=h9.len;first|exact hp h91|(apply hl;omega))],rfl⟩)
 refine AC<|Zx<|Zq<|Zq<|Zg<|Za Y<|Z0<|Zx<|AQ<|Zb [3,1] ?_;refine Az (e0:=[(3,_)]) (fun m e H=>∃(i:Nat),m=cs.length -i∧(i≤cs.length∧(∀(j:Nat) (c:Chg),j<i→cs[j]?=some c→c.ok)∧(∀(j:Nat) (b c:Chg),j+1<i→cs[j]?=some b→cs[j+1]?=some c→b.lt c))∧e=[(3,I4 (i:Int))]∧H=[]) (by exact ⟨0,rfl,⟨by omega,by intro j c hj;omega,by intro j b c hj;omega⟩,rfl,rfl⟩) Wp ?_;rintro _ _ _ ⟨i,rfl,⟨hi,hall,hord⟩,rfl,rfl⟩;refine Zq<|Zq<|Zg<|Zm Y<|Zh 1 underlying73 rfl rfl sizeOf71 Y<|Zl isAgg71 Y ?_;refine Zv (AV underlying71 Y)<|Zv (Aq Y Y)<|Z0<|Zx ?_;refine Ao Y (fun hlt=>?_) (fun hlt=>?_)
 ·
  refine AC<|Zx<|Zq<|AQ<|Zq ?_;obtain ⟨x,hx⟩:∃x,cs[i]?=some x:=⟨_,tF hlt⟩;obtain ⟨g,off,cur,T,zz,rfl,hm,hsz,hex⟩:=hg i x hx;refine Zg<|Zh 1 underlying73 rfl rfl sizeOf71 Y<|Zl isAgg71 Y ?_;refine Zm Y ?_;refine BM (AU underlying71 sizeOf77 Y Y (by first|omega|decide|(simp;done))) ?_;refine Cf (cs:=[(g,.cells cur T zz)]) (by simp [hm]) (AX (cs:=#[I4 x.t,I4 x.k,.bool x.had,I4 x.o.a,I4 x.o.b,I4 x.o.c,.bool x.has,I4 x.n.a,I4 x.n.b,I4 x.n.c]) isAgg77 sizeOf77 Y (by omega) hex) rfl rfl ?_;refine Ze (Al zeroValue77 #[_,_,_,_,_,_,_,_,_,_]) ?_;rintro _ _ ⟨b2,rfl,rfl⟩;refine Xe (Xw sizeOf77 _) ?_;refine Z0<|Zx<|Zq<|Zq<|Zg<|Zo Wh (Pa #[_,_,_,_,_,_,_,_,_,_] isAgg77 sizeOf77 Y) ?_;refine Xr [_] Y call207 Y rfl (bJ x) ?_;refine Zv (CB Y)<|Z0<|Zn [1,3,4,31] ?_;refine Zx ?_;refine Ao Y (fun hbad=>?_) (fun hbad=>?_)
  ·
   refine Zq<|Zg<|Za Y<|Z0<|Zx<|A9<|Zt<|AY<|Zt<|Zt<|AY<|Zt ?_;refine AB rfl results109 Y (by exact ⟨by rw [decide_eq_false (fun h9:ES p cs=>hbad (h9.all i x hx))],rfl⟩)
  refine AC<|Zx<|Zq<|Zg<|Zm Y<|Zv (DJ (n:=0) Y Y)<|Z0<|Zx ?_;refine Ao Y (fun hpos=>?_) (fun hpos=>?_)
  ·
   refine Zq ?_;obtain ⟨y,hy⟩:∃y,cs[i -1]?=some y:=⟨_,tF (by omega)⟩;obtain ⟨g2,off2,cur2,T2,zz2,e2,hm2,hsz2,hex2⟩:=hg (i -1) y hy;injection e2 with e2
   injection e2 with e21 e22
   subst e21 e22;refine Zg<|Zh 1 underlying73 rfl rfl sizeOf71 Y<|Zl isAgg71 Y ?_;refine Zm Y<|Yb (n:=1) Y Y ?_;refine BM (AU underlying71 sizeOf77 Y Y (by first|omega|decide|(simp;done))) ?_;refine Cf (cs:=[(g,.cells cur2 T2 zz2)]) (by simp [hm2]) (AX (cs:=#[I4 y.t,I4 y.k,.bool y.had,I4 y.o.a,I4 y.o.b,I4 y.o.c,.bool y.has,I4 y.n.a,I4 y.n.b,I4 y.n.c]) isAgg77 sizeOf77 Y (by omega) hex2) rfl rfl ?_;refine Ze (Al zeroValue77 #[_,_,_,_,_,_,_,_,_,_]) ?_;rintro _ _ ⟨b3,rfl,rfl⟩;refine Xe (Xw sizeOf77 _) ?_;refine Z0<|Zx<|Zq<|Zg<|Zh 0 underlying77 rfl rfl sizeOf3 Y<|Zl isAgg3 Y ?_;refine Zh 0 underlying77 rfl rfl sizeOf3 Y<|Zl isAgg3 Y ?_;refine Zv (Es Y Y)<|Zm Y ?_;refine Aj (t:=45) Y rfl (fun ho1=>?_) (fun ho1=>?_)
   ·
    refine A7 Y rfl<|A7 Y rfl<|A7 Y rfl<|A7 Y rfl<|A7 Y rfl<|A7 Y rfl<|A7 Y rfl<|A7 Y rfl<|A7 Y rfl<|A7 Y rfl<|A7 Y rfl<|A7 Y rfl<|Zv (AL Y Y)<|Z0<|Zn [1,3,58] ?_;refine Zx<|CE Y<|Zq<|Zg<|Za Y<|Z0<|Zx<|A9<|AY<|Zt<|Zt<|AY<|Zt ?_;refine AB rfl results109 Y (by exact ⟨by rw [decide_eq_false (fun h9:ES p cs=>by have h91:=h9.ord (i -1) y x hy (by rw [show i -1+1=i by omega];exact hx);unfold Chg.lt at h91;omega)],rfl⟩)
   refine Yf 0 underlying77 rfl rfl sizeOf3 Y<|Yl isAgg3 Y ?_;refine Yf 0 underlying77 rfl rfl sizeOf3 Y<|Yl isAgg3 Y ?_;refine Yg (CF Y Y)<|Zf Y Y ?_;refine Aj (t:=51) Y rfl (fun ho2=>?_) (fun ho2=>?_)
   ·
    refine Yf 1 underlying77 rfl rfl sizeOf3 Y<|Yl isAgg3 Y ?_;refine Yf 1 underlying77 rfl rfl sizeOf3 Y<|Yl isAgg3 Y ?_;refine Yg (GZ Y Y)<|Yg (AL Y Y)<|Zv (AA Y Y)<|Z0<|Zn [1,3,58] ?_;refine Zx ?_;refine Ao Y (fun ho3=>?_) (fun ho3=>?_)
    ·
     refine Zq<|Zg<|Za Y<|Z0<|Zx<|A9<|AY<|Zt<|Zt<|AY<|Zt ?_;refine AB rfl results109 Y (by exact ⟨by rw [decide_eq_false (fun h9:ES p cs=>by have h91:=h9.ord (i -1) y x hy (by rw [show i -1+1=i by omega];exact hx);unfold Chg.lt at h91;omega)],rfl⟩)
    refine AC<|A8<|Zx<|Zg<|Zm Y<|Ya (n:=1) Y Y<|Za Y<|Z0<|Zn [3,1] ?_;refine Ab (e':=[(3,_)]) (by exact ⟨i+1,rfl,⟨by omega,LF hall hx (uH.1 hbad),Ko hord hx (by(right;refine ⟨y,hy,?_⟩;unfold Chg.lt;omega))⟩,rfl,rfl⟩)
   refine A7 Y rfl<|A7 Y rfl<|A7 Y rfl<|A7 Y rfl<|A7 Y rfl<|Yg (AA Y Y)<|Zv (AA Y Y)<|Z0<|Zn [1,3,58] ?_;refine Zx<|Di Y<|AC<|A8<|Zx<|Zg<|Zm Y<|Ya (n:=1) Y Y<|Za Y<|Z0<|Zn [3,1] ?_;refine Ab (e':=[(3,_)]) (by exact ⟨i+1,rfl,⟨by omega,LF hall hx (uH.1 hbad),Ko hord hx (by(right;refine ⟨y,hy,?_⟩;unfold Chg.lt;omega))⟩,rfl,rfl⟩)
  refine AC<|A8<|Zx<|Zg<|Zm Y<|Ya (n:=1) Y Y<|Za Y<|Z0<|Zn [3,1] ?_;refine Ab (e':=[(3,_)]) (by exact ⟨i+1,rfl,⟨by omega,LF hall hx (uH.1 hbad),Ko hord hx (by(left;omega))⟩,rfl,rfl⟩)
 refine Ar<|Zt<|Zt<|AO<|Zx<|Zq<|Zg<|Za Y<|Z0<|Zx<|A9 ?_;refine AB rfl results109 Y (by exact ⟨by rw [decide_eq_true (⟨by omega,by omega,fun j c hc=>hall j c (by have:=(tH.1 hc).1;omega) hc,fun j b c hb hc=>hord j b c (by have:=(tH.1 hc).1;omega) hb hc⟩:ES p cs)],rfl⟩)
def Yt(M:List AR)(v:Value)(rs:List AP):Prop:=∃p cap,v= .slice p rs.length cap∧rs.length≤maxLen∧∀(i:Nat) (r:AP),rs[i]?=some r→∃g off cur T zz,p=some ⟨g,off,none⟩∧(g,Obj.cells cur T zz)∈M∧off+i*5+5≤cur.size∧cur.extract (off+i*5) (off+i*5+5)=#[I4 r.t,I4 r.k,I4 r.v.a,I4 r.v.b,I4 r.v.c]
theorem Qz{cur cs:Array Value}{a n j:Nat}{v:Value}(h:cur.extract a (a+n)=cs)(hv:cs[j]?=some v):cur[a+j]?=some v:=by
 rw [←h,wW]at hv;split at hv
 · exact hv
 · cases hv
def AP.lt2(r:AP)(t k:Int):Prop:=r.t<t∨r.t=t∧r.k<k
instance(r:AP)(t k:Int):Decidable (r.lt2 t k):=inferInstanceAs(Decidable (_∨_))
def AP.is(r:AP)(t k:Int):Prop:=r.t=t∧r.k=k
instance(r:AP)(t k:Int):Decidable (r.is t k):=inferInstanceAs(Decidable (_∧_))
def BJ(rs:List AP):Prop:=rs.Pairwise (fun a b=>a.lt2 b.t b.k)
def Dl(rs:List AP)(t k:Int):Nat:=(rs.takeWhile (fun r=>decide (r.lt2 t k))).length
theorem Su:∀{rs:List AP} {t k:Int} {m:Nat},m≤rs.length→(∀(i:Nat) (r:AP),i<m→rs[i]?=some r→r.lt2 t k)→(∀(i:Nat) (r:AP),m≤i→rs[i]?=some r→¬r.lt2 t k)→Dl rs t k=m
 |[],t,k,m,hm,_,_=>by simp only [vG]at hm;simp [Dl];omega
 |r::rs,t,k,0,_,_,h2=>by unfold Dl;rw [wY,if_neg (by simpa using h2 0 r (by omega) rfl)];rfl
 |r::rs,t,k,m+1,hm,h1,h2=>by
  unfold Dl;rw [wY,if_pos (by simpa using h1 0 r (by omega) rfl),tY];exact congrArg (·+1) (Su (by simpa using hm) (fun i x hi hx=>h1 (i+1) x (by omega) hx) (fun i x hi hx=>h2 (i+1) x (by omega) hx))
theorem OQ{a b:AP}{t k:Int}(h:a.lt2 b.t b.k)(hb:b.lt2 t k):a.lt2 t k:=by unfold AP.lt2 at*;omega
theorem SL{rs:List AP}(h:BJ rs){i j:Nat}{a b:AP}(hij:i<j)(ha:rs[i]?=some a)(hb:rs[j]?=some b):a.lt2 b.t b.k:=by
 obtain ⟨hi,rfl⟩:=tH.1 ha;obtain ⟨hj,rfl⟩:=tH.1 hb;exact yM.1 h i j hi hj hij
theorem Tk{rs:List AP}(h:BJ rs){m:Nat}{x:AP}{t k:Int}(hx:rs[m]?=some x)(hl:x.lt2 t k):∀(i:Nat) (r:AP),i<m+1→rs[i]?=some r→r.lt2 t k:=by
 intro i r hi hr;rcases uJ i m with h9|h9
 · exact OQ (SL h h9 hr hx) hl
 · rw [show i=m by omega,hx]at hr;injection hr with hr;rw [←hr];exact hl
theorem Tq{rs:List AP}(h:BJ rs){m:Nat}{x:AP}{t k:Int}(hx:rs[m]?=some x)(hl:¬x.lt2 t k):∀(i:Nat) (r:AP),m≤i→rs[i]?=some r→¬r.lt2 t k:=by
 intro i r hi hr hc;rcases uJ m i with h9|h9
 · exact hl (OQ (SL h h9 hx hr) hc)
 · rw [show i=m by omega,hx]at hr;injection hr with hr;rw [←hr]at hc;exact hl hc
theorem Ve(sp:Nat)(q:Option Addr)(cap:Nat)(p t k:Int)(rs:List AP)(M:List AR)(hO:Yt M (.slice q rs.length cap) rs)(hn:rs.length≤1000000)(hs:BJ rs):Av Tryz.prog 111 #[I5 sp,I4 t,I4 k] [[(sp,.cells #[.slice q rs.length cap,I4 p] 182 (0,0))],M] (I4 (Dl rs t k:Int)):=by
 have hml:=mL;obtain ⟨p9,cap9,e9,hol,hg⟩:=hO;injection e9 with e91 e92 e93
 subst e91 e93;refine Se func111 ntmps111 [0,1,2] ?_;intro u R;refine Zq<|Zg<|Za Y<|Z0<|Zx<|Zq<|Zg<|Za Y<|Z0<|Zx<|Zq<|Zg<|Zm Y<|Zp Y rfl<|Zh 0 underlying182 rfl rfl sizeOf45 Y<|Zl isAgg45 Y ?_;refine Zv (AV underlying45 Y)<|Za Y<|Z0<|Zx<|Zq<|AQ<|Zb [7,8,0,1,2] ?_;refine Az (e0:=[(7,_),(8,_)]) (fun m e H=>∃(lo hi:Nat),m=hi -lo∧(lo≤hi∧hi≤rs.length∧(∀(i:Nat) (r:AP),i<lo→rs[i]?=some r→r.lt2 t k)∧(∀(i:Nat) (r:AP),hi≤i→rs[i]?=some r→¬r.lt2 t k))∧e=[(7,I4 (lo:Int)),(8,I4 (hi:Int))]∧H=[]) (by exact ⟨0,rs.length,rfl,⟨by omega,by omega,by intro i r hi;omega,by intro i r hi hr;have:=(tH.1 hr).1;omega⟩,rfl,rfl⟩) Wp ?_;rintro _ _ _ ⟨lo,hi,rfl,⟨hlh,hhl,hbl,hab⟩,rfl,rfl⟩;refine Zq<|Zq<|Zg<|Zm Y<|Zm Y<|Zv (Aq Y Y)<|Z0<|Zx ?_;refine Ao Y (fun hlt=>?_) (fun hlt=>?_)
 ·
  refine AC<|Zx<|AQ<|Zq<|Zg<|Zm Y<|Zm Y<|Ya Y Y ?_
  (refine BM (Jh (n:=2) Y Y ?_ ?_) ?_;(focus (omega));(focus (omega)))
  refine Za Y<|Z0<|Zx<|Zq ?_;obtain ⟨x,hx⟩:∃x,rs[(lo+hi)/2]?=some x:=⟨_,tF (by omega)⟩;obtain ⟨g,off,cur,T,zz,rfl,hm,hsz,hex⟩:=hg _ x hx;refine Zg<|Zm Y<|Zp Y rfl<|Zh 0 underlying182 rfl rfl sizeOf45 Y<|Zl isAgg45 Y ?_;refine Zm Y ?_;refine BM (AU underlying45 sizeOf113 Y Y (by omega)) ?_;refine Zv (BH (off:=0) underlying113 rfl rfl sizeOf3 Y)<|Cf (cs:=[(g,.cells cur T zz)]) (by simp [hm]) (Bf isAgg3 Y (Qz (j:=0) hex rfl)) rfl rfl ?_;refine Zm Y<|Zv (Eb Y Y)<|Zm Y ?_;refine Aj (t:=32) Y rfl (fun h1=>?_) (fun h1=>?_)
  ·
   refine A7 Y rfl<|A7 Y rfl<|A7 Y rfl<|A7 Y rfl<|A7 Y rfl<|A7 Y rfl<|A7 Y rfl<|A7 Y rfl<|A7 Y rfl<|A7 Y rfl<|A7 Y rfl<|A7 Y rfl<|A7 Y rfl<|A7 Y rfl<|A7 Y rfl<|A7 Y rfl<|A7 Y rfl<|A7 Y rfl<|A7 Y rfl<|A7 Y rfl<|A7 Y rfl<|A7 Y rfl<|Zv (AL Y Y)<|Z0 ?_;refine Zn [0,1,2,7,8,9,55] ?_;refine Zx<|CE Y<|Zg<|Zm Y<|Ya (n:=1) Y Y<|Za Y<|Z0<|A8<|Zn [7,8,0,1,2] ?_;refine Ab (e':=[(7,_),(8,_)]) (by exact ⟨(lo+hi)/2+1,hi,rfl,⟨by omega,by omega,Tk hs hx (by unfold AP.lt2;omega),hab⟩,rfl,rfl⟩)
  refine Zf Y Y<|Yg (Dz Y rfl)<|Yf 0 underlying182 rfl rfl sizeOf45 Y<|Yl isAgg45 Y ?_;refine Zf Y Y ?_
  (refine FX Y (AU underlying45 sizeOf113 Y Y ?_) rfl rfl ?_;(focus (omega)))
  refine Yg (BH (off:=0) underlying113 rfl rfl sizeOf3 Y)<|Qa Y (cs:=[(g,.cells cur T zz)]) (by simp [hm]) (Bf isAgg3 Y (Qz (j:=0) hex rfl)) rfl rfl ?_;refine Zf Y Y<|Yg (CF Y Y)<|Zf Y Y ?_;refine Aj (t:=43) Y rfl (fun h2=>?_) (fun h2=>?_)
  ·
   refine Zf Y Y<|Yg (Dz Y rfl)<|Yf 0 underlying182 rfl rfl sizeOf45 Y<|Yl isAgg45 Y ?_;refine Zf Y Y ?_
   (refine FX Y (AU underlying45 sizeOf113 Y Y ?_) rfl rfl ?_;(focus (omega)))
   refine Yg (BH (off:=1) underlying113 rfl rfl sizeOf3 Y)<|Qa Y (cs:=[(g,.cells cur T zz)]) (by simp [hm]) (Bf isAgg3 Y (Qz (j:=1) hex rfl)) rfl rfl ?_;refine Zf Y Y<|Yg (Eb Y Y)<|Yg (AL Y Y)<|Zv (AA Y Y)<|Z0<|Zn [0,1,2,7,8,9,55] ?_;refine Zx ?_;refine Ao Y (fun h3=>?_) (fun h3=>?_)
   ·
    refine Zg<|Zm Y<|Ya (n:=1) Y Y<|Za Y<|Z0<|A8<|Zn [7,8,0,1,2] ?_;refine Ab (e':=[(7,_),(8,_)]) (by exact ⟨(lo+hi)/2+1,hi,rfl,⟨by omega,by omega,Tk hs hx (by unfold AP.lt2;omega),hab⟩,rfl,rfl⟩)
   refine Zg<|Zm Y<|Za Y<|Z0<|A8<|Zn [7,8,0,1,2] ?_;refine Ab (e':=[(7,_),(8,_)]) (by exact ⟨lo,(lo+hi)/2,rfl,⟨by omega,by omega,hbl,Tq hs hx (by unfold AP.lt2;omega)⟩,rfl,rfl⟩)
  refine A7 Y rfl<|A7 Y rfl<|A7 Y rfl<|A7 Y rfl<|A7 Y rfl<|A7 Y rfl<|A7 Y rfl<|A7 Y rfl<|A7 Y rfl<|A7 Y rfl<|Yg (AA Y Y)<|Zv (AA Y Y)<|Z0<|Zn [0,1,2,7,8,9,55] ?_;refine Zx<|Di Y<|Zg<|Zm Y<|Za Y<|Z0<|A8<|Zn [7,8,0,1,2] ?_;refine Ab (e':=[(7,_),(8,_)]) (by exact ⟨lo,(lo+hi)/2,rfl,⟨by omega,by omega,hbl,Tq hs hx (by unfold AP.lt2;omega)⟩,rfl,rfl⟩)
 refine Ar<|Zt<|Zt<|AO<|Zx<|Zq<|Zg<|Zm Y<|Za Y<|Z0<|Zx<|A9 ?_;refine AB rfl results111 Y (by exact ⟨by rw [Su (by omega) hbl (fun i r hi hr=>hab i r (by omega) hr)],rfl⟩)
def FV(rs:List AP)(t k:Int):AP×Bool:=match rs[Dl rs t k]?with
 |some r=>if r.is t k then(r,true)else(AP.zero,false)
 |none=>(AP.zero,false)
theorem Sv(rs:List AP)(t k:Int):Dl rs t k≤rs.length:=by unfold Dl;exact List.IsPrefix.length_le (List.takeWhile_prefix _)
theorem dz{rs:List AP}{t k:Int}{x:AP}(hx:rs[Dl rs t k]?=some x)(h1:x.t=t)(h2:x.k=k):FV rs t k=(x,true):=by unfold FV;rw [hx];exact if_pos ⟨h1,h2⟩
theorem aH{rs:List AP}{t k:Int}{x:AP}(hx:rs[Dl rs t k]?=some x)(h:¬(x.t=t∧x.k=k)):FV rs t k=(AP.zero,false):=by unfold FV;rw [hx];exact if_neg h
theorem jk{rs:List AP}{t k:Int}(h:¬Dl rs t k<rs.length):FV rs t k=(AP.zero,false):=by unfold FV;rw [uq (by omega)]
theorem iO(sp:Nat)(q:Option Addr)(cap:Nat)(p t k:Int)(rs:List AP)(M:List AR)(hO:Yt M (.slice q rs.length cap) rs)(hn:rs.length≤1000000)(hs:BJ rs):Av Tryz.prog 110 #[I5 sp,I4 t,I4 k] [[(sp,.cells #[.slice q rs.length cap,I4 p] 182 (0,0))],M] (.tuple #[.agg #[I4 (FV rs t k).1.t,I4 (FV rs t k).1.k,I4 (FV rs t k).1.v.a,I4 (FV rs t k).1.v.b,I4 (FV rs t k).1.v.c],.bool (FV rs t k).2]):=by
 have hO1:=id hO;have hml:=mL
 obtain ⟨p9,cap9,e9,hol,hg⟩:=hO;injection e9 with e91 e92 e93
 subst e91 e93;have hpl:=Sv rs t k
 refine Se func110 ntmps110 [0,1,2] ?_;intro u R;refine Zq<|Zg<|Ze (Al zeroValue113 #[_,_,_,_,_]) ?_;rintro _ _ ⟨b1,rfl,rfl⟩;refine Za Y<|Z0<|Zx<|Zq<|Zg<|Zm Y<|Zm Y<|Zm Y<|Xr [_,_,_] Y call111 Y rfl (Ve sp _ _ p t k rs M hO1 hn hs) ?_;refine Za Y<|Z0<|Zx<|Zq<|Zq<|Zg<|Zm Y<|Zm Y<|Zp Y rfl<|Zh 0 underlying182 rfl rfl sizeOf45 Y<|Zl isAgg45 Y ?_;refine Zv (AV underlying45 Y)<|Zv (Aq Y Y)<|Zm Y ?_;refine Aj (t:=20) Y rfl (fun hlt=>?_) (fun hlt=>?_)
 ·
  obtain ⟨x,hx⟩:∃x,rs[Dl rs t k]?=some x:=⟨_,tF hlt⟩;obtain ⟨g,off,cur,T,zz,rfl,hm,hsz,hex⟩:=hg _ x hx;refine Zf Y Y<|Yg (Dz Y rfl)<|Yf 0 underlying182 rfl rfl sizeOf45 Y<|Yl isAgg45 Y ?_;refine Zf Y Y ?_
  (refine FX Y (AU underlying45 sizeOf113 Y Y ?_) rfl rfl ?_;(focus (omega)))
  refine Yg (BH (off:=0) underlying113 rfl rfl sizeOf3 Y)<|Qa Y (cs:=[(g,.cells cur T zz)]) (by simp [hm]) (Bf isAgg3 Y (Qz (j:=0) hex rfl)) rfl rfl ?_;refine Zf Y Y<|Yg (CF Y Y)<|Zv (AL Y Y)<|Zm Y ?_;refine Aj (t:=32) Y rfl (fun ht=>?_) (fun ht=>?_)
  ·
   refine Zf Y Y<|Yg (Dz Y rfl)<|Yf 0 underlying182 rfl rfl sizeOf45 Y<|Yl isAgg45 Y ?_;refine Zf Y Y ?_
   (refine FX Y (AU underlying45 sizeOf113 Y Y ?_) rfl rfl ?_;(focus (omega)))
   refine Yg (BH (off:=1) underlying113 rfl rfl sizeOf3 Y)<|Qa Y (cs:=[(g,.cells cur T zz)]) (by simp [hm]) (Bf isAgg3 Y (Qz (j:=1) hex rfl)) rfl rfl ?_;refine Zf Y Y<|Yg (CF Y Y)<|Zv (AL Y Y)<|Z0<|Zn [0,6,8,43] ?_;refine Zx ?_;refine Ao Y (fun hk=>?_) (fun hk=>?_)
   ·
    refine Zq<|Zg<|Zm Y<|Zp Y rfl<|Zh 0 underlying182 rfl rfl sizeOf45 Y<|Zl isAgg45 Y ?_;refine Zm Y ?_;refine BM (AU underlying45 sizeOf113 Y Y (by first|omega|decide|(simp;done))) ?_;refine Cf (cs:=[(g,.cells cur T zz)]) (by simp [hm]) (AX (cs:=#[I4 x.t,I4 x.k,I4 x.v.a,I4 x.v.b,I4 x.v.c]) isAgg113 sizeOf113 Y (by omega) hex) rfl rfl ?_;refine Xe (Xw sizeOf113 _) ?_;refine Za Y<|Z0<|Zx<|A9<|Zt ?_;refine Bb rfl results110 Y Wh (Ah isAgg113 sizeOf113 Wn (rfl)) Y (by exact ⟨by rw [dz hx ht hk];rfl,rfl⟩)
   refine AC<|Zx<|Zq<|Zg<|Zv (BK (vs:=[]) (cs:=#[_,_,_,_,_]) Y (Aa (pl:=#[(0,1),(1,1),(2,3)]) zeroValue113 underlying113 (fun _=>by kernel_rfl) rfl)) ?_;refine Xe (Xw sizeOf113 _) ?_;refine Za Y<|Z0<|Zx<|A9 ?_;refine Bb rfl results110 Y Wh (Ah isAgg113 sizeOf113 Wn (rfl)) Y (by exact ⟨by(rw [aH hx (by omega)];rfl),rfl⟩)
  refine A7 Y rfl<|A7 Y rfl<|A7 Y rfl<|A7 Y rfl<|A7 Y rfl<|A7 Y rfl<|A7 Y rfl<|A7 Y rfl<|A7 Y rfl<|A7 Y rfl<|Zv (AA Y Y)<|Z0<|Zn [0,6,8,43] ?_;refine Zx<|Di Y<|AC<|Zx<|Zq<|Zg<|Zv (BK (vs:=[]) (cs:=#[_,_,_,_,_]) Y (Aa (pl:=#[(0,1),(1,1),(2,3)]) zeroValue113 underlying113 (fun _=>by kernel_rfl) rfl)) ?_;refine Xe (Xw sizeOf113 _) ?_;refine Za Y<|Z0<|Zx<|A9 ?_;refine Bb rfl results110 Y Wh (Ah isAgg113 sizeOf113 Wn (rfl)) Y (by exact ⟨by(rw [aH hx (by omega)];rfl),rfl⟩)
 refine A7 Y rfl<|A7 Y rfl<|A7 Y rfl<|A7 Y rfl<|A7 Y rfl<|A7 Y rfl<|A7 Y rfl<|A7 Y rfl<|A7 Y rfl<|A7 Y rfl<|Zv (AA Y Y)<|Zm Y<|A7 Y rfl<|A7 Y rfl<|A7 Y rfl<|A7 Y rfl<|A7 Y rfl<|A7 Y rfl<|A7 Y rfl<|A7 Y rfl<|A7 Y rfl<|A7 Y rfl<|Zv (AA Y Y)<|Z0 ?_;refine Zn [0,6,8,43] ?_;refine Zx<|Di Y<|AC<|Zx<|Zq<|Zg<|Zv (BK (vs:=[]) (cs:=#[_,_,_,_,_]) Y (Aa (pl:=#[(0,1),(1,1),(2,3)]) zeroValue113 underlying113 (fun _=>by kernel_rfl) rfl)) ?_;refine Xe (Xw sizeOf113 _) ?_;refine Za Y<|Z0<|Zx<|A9 ?_;refine Bb rfl results110 Y Wh (Ah isAgg113 sizeOf113 Wn (rfl)) Y (by exact ⟨by(rw [jk hlt];rfl),rfl⟩)
def out(lo hi n:Int):Bool:=decide (n<lo)||decide (hi<n)
def Gt(cur:Array Value)(o:Nat)(ns:List Int):Prop:=∀(i:Nat) (n:Int),ns[i]?=some n→cur[o+i]?=some (I4 n)
theorem fJ(p:Int→Bool)(ls:List Int)(i:Nat)(x:Int)(h:ls[i]?=some x):(ls.take (i+1)).any p=((ls.take i).any p||p x):=by
 rw [vK,h];simp
theorem nW(p:Int→Bool)(ls:List Int)(i:Nat)(x:Int)(h:ls[i]?=some x)(hx:p x=true):ls.any p=true:=by
 rw [zq];exact ⟨x,tV h,hx⟩
theorem oh(lp hp:Nat)(n lo hi:Int):Av Tryz.prog 275 #[I4 n,I5 lp,I5 hp] [[(lp,.cells #[I4 lo] 3 (0,0))],[(hp,.cells #[I4 hi] 3 (0,0))]] (.bool (out lo hi n)):=by
 refine Se func275 ntmps275 [0,1,2] ?_;intro u R;refine Zq<|Zg<|Za Y<|Z0<|Zx<|Zq<|Zg<|Zm Y<|Zl isAgg3 Y ?_;refine Zv (Eb Y Y)<|Zm Y ?_;refine Aj (t:=8) Y rfl (fun h1=>?_) (fun h1=>?_)
 ·
  refine A7 Y rfl<|A7 Y rfl<|A7 Y rfl<|Zv (AL Y Y)<|Za Y<|Z0<|Zx<|A9 ?_;refine AB rfl results275 Y (by exact ⟨by simp [out,h1],rfl⟩)
 refine Zf Y Y<|Yl isAgg3 Y ?_;refine Yg (Es Y Y)<|Zv (AA Y Y)<|Za Y<|Z0<|Zx<|A9 ?_;refine AB rfl results275 Y (by exact ⟨by simp [out,h1],rfl⟩)
theorem YJ(lp hp g off cap:Nat)(lo hi:Int)(cur:Array Value)(T:TypeId)(z:Nat×Nat)(ls:List Int)(hin:Gt cur off ls)(hn:ls.length≤1073741824):
 CO Tryz.prog 301 #[.slice (some ⟨g,off,none⟩) ls.length cap,.func (.func 275) #[] #[I5 lp,I5 hp]] [[(lp,.cells #[I4 lo] 3 (0,0))],[(hp,.cells #[I4 hi] 3 (0,0))],[(g,.cells cur T z)]] (fun r H'=>∃k:Int,r=I4 k∧decide (0≤k)=ls.any (out lo hi)∧H'=[[(lp,.cells #[I4 lo] 3 (0,0))],[(hp,.cells #[I4 hi] 3 (0,0))],[(g,.cells cur T z)]]):=by
 refine Se func301 ntmps301 [0,1] ?_;intro u R;refine Zq<|Zg<|Za Y<|Z0<|Zx<|Zq<|Zq<|Zg<|Zm Y<|Zv (AV underlying210 Y)<|Zm Y<|Z0<|Zx<|AQ<|Zb [8,0,1,7] ?_;refine Az (e0:=[(8,_)]) (fun m e H=>∃(i:Nat),m=ls.length -i∧(i≤ls.length∧(ls.take i).any (out lo hi)=false)∧e=[(8,I4 (i:Int))]∧H=[]) (by exact ⟨0,rfl,⟨tX _,rfl⟩,rfl,rfl⟩) Wp ?_;rintro _ _ _ ⟨i,rfl,⟨hi9,hany⟩,rfl,rfl⟩;refine Zq<|Zg<|Zv (Aq Y Y)<|Z0<|Zx<|Zq ?_;refine Ao Y (fun hlt=>?_) (fun hlt=>?_)
 ·
  refine AC<|Zx<|Zq<|AQ<|Zq<|Zg<|Zm Y<|Za Y<|Z0<|Zx<|Zq ?_;obtain ⟨x,hx⟩:∃x,ls[i]?=some x:=⟨_,tF hlt⟩;refine Zg<|Zm Y<|Zm Y<|Zm Y ?_;refine BM (BS underlying210 sizeOf3 Y Y (by omega)) ?_;refine Zl isAgg3 Y (hv:=by exact hin i x hx) ?_;refine Xr [_] Y call275 Y rfl (oh lp hp x lo hi) ?_;refine Z0<|Zx ?_;refine Af Y (fun hlx=>?_) (fun hlx=>?_)
  ·
   refine Zq<|Zg<|Zm Y<|Za Y<|Z0<|Zx<|A9<|AY<|Zt<|Zt<|AY<|Zt ?_;refine AB rfl results301 Y (by exact ⟨(i:Int),rfl,by rw [nW _ ls i x hx hlx];exact decide_eq_true (by omega),rfl⟩)
  refine AC<|A8<|Zx<|Zg<|Ya (n:=1) Y Y<|Zm Y<|Z0<|Zn [8,0,1,7] ?_;refine Ab (e':=[(8,_)]) (by exact ⟨i+1,rfl,⟨by omega,by rw [fJ _ ls i x hx,hany];exact hlx⟩,rfl,rfl⟩)
 have ei:i=ls.length:=by omega
 subst ei;rw [uQ]at hany;refine Ar<|Zt<|Zt<|AO<|Zx<|Zq<|Zg<|Za Y<|Z0<|Zx<|A9 ?_;refine AB rfl results301 Y (by exact ⟨-1,rfl,by rw [hany];rfl,rfl⟩)
theorem Ro(lp hp g off cap:Nat)(lo hi:Int)(cur:Array Value)(T:TypeId)(z:Nat×Nat)(ls:List Int)(hin:Gt cur off ls)(hn:ls.length≤1073741824):
 Av Tryz.prog 274 #[.slice (some ⟨g,off,none⟩) ls.length cap,.func (.func 275) #[] #[I5 lp,I5 hp]] [[(lp,.cells #[I4 lo] 3 (0,0))],[(hp,.cells #[I4 hi] 3 (0,0))],[(g,.cells cur T z)]] (.bool (ls.any (out lo hi))):=by
 refine Se func274 ntmps274 [0,1] ?_;intro u R;refine Zq<|Zg<|Za Y<|Z0<|Zx<|Zq<|Zg<|Zm Y<|Zm Y<|Zc [_,_] Y call301 Y rfl (YJ lp hp g off cap lo hi cur T z ls hin hn) ?_;rintro _ _ ⟨_,⟨k,rfl,hk,rfl⟩,rfl⟩;refine Zv (GZ Y Y)<|Za Y<|Z0<|Zx<|A9 ?_;refine AB rfl results274 Y (by exact ⟨by rw [←hk],rfl⟩)
theorem SN(g off cap:Nat)(lo hi:Int)(cur:Array Value)(T:TypeId)(z:Nat×Nat)(ls:List Int)(hin:Gt cur off ls)(hn:ls.length≤1073741824):
 Av Tryz.prog 237 #[I4 lo,I4 hi,.slice (some ⟨g,off,none⟩) ls.length cap] [[(g,.cells cur T z)]] (.bool (!(ls.any (out lo hi)))):=by
 refine Se func237 ntmps237 [0,1,2] ?_;intro u R;refine Zq<|Zg<|Ze (Bx #[_]) ?_;rintro _ _ ⟨b1,rfl,rfl⟩;refine Ze (Bx #[_]) ?_;rintro _ _ ⟨b2,rfl,rfl⟩;refine Za Y<|Z0<|Zx<|Zq<|Zg<|Zm Y<|Zv (Bt (vs:=[]) (us:=[_,_]) Y Y) ?_;refine Xr [_,_] Y call274 Y rfl (Ro _ _ g off cap lo hi cur T z ls hin hn) ?_;refine Zv (Ca Y)<|Za Y<|Z0<|Zx<|A9 ?_;refine AB rfl results237 Y (by exact ⟨rfl,rfl⟩)
def EK(c:Chg)(th:Bool)(v:V3):AP:=if th then⟨c.t,c.k,v⟩else AP.zero
theorem jh{c:Chg}{th:Bool}{v:V3}(h:th=true):EK c th v=⟨c.t,c.k,v⟩:=if_pos h
theorem pV{c:Chg}{th:Bool}{v:V3}(h:th=false):EK c th v=AP.zero:=if_neg (by rw [h];decide)
theorem ZP(lo hi n:Int):(!(([n]:List Int).any (out lo hi)))=decide (lo≤n∧n≤hi):=by
 simp only [zZ,AA2,zB,out];by_cases h1:n<lo<;>by_cases h2:hi<n<;>simp [h1,h2]<;>omega
theorem pF(v:V3):(!(([v.a,v.b,v.c]:List Int).any (out (-1000000000) 1000000000)))=decide v.ok:=by
 have h:∀n,out (-1000000000) 1000000000 n=!decide (inV n):=by
  intro n;have:=ZP (-1000000000) 1000000000 n
  simp only [zZ,AA2,zB]at this;rw [←Bool.not_not (out _ _ n),this];rfl
 simp only [zZ,AA2,zB,h,V3.ok];by_cases h1:inV v.a<;>by_cases h2:inV v.b<;>by_cases h3:inV v.c<;>simp [h1,h2,h3]
theorem rA{cur:Array Value}{o:Nat}{n:Int}(h:cur[o]?=some (I4 n)):Gt cur o [n]:=by
 intro i x hx;rcases i with _|i
 · injection hx with hx;rw [←hx];exact h
 · cases hx
theorem qy{cur:Array Value}{o:Nat}{v:V3}(h0:cur[o]?=some (I4 v.a))(h1:cur[o+1]?=some (I4 v.b))(h2:cur[o+2]?=some (I4 v.c)):Gt cur o [v.a,v.b,v.c]:=by
 intro i x hx;rcases i with _|_|_|i
 · injection hx with hx;rw [←hx];exact h0
 · injection hx with hx;rw [←hx];exact h1
 · injection hx with hx;rw [←hx];exact h2
 · cases hx
theorem Jz(g off cap:Nat)(lo hi:Int)(cur:Array Value)(T:TypeId)(z:Nat×Nat)(n:Int)(h:cur[off]?=some (I4 n)):
 Av Tryz.prog 237 #[I4 lo,I4 hi,.slice (some ⟨g,off,none⟩) 1 cap] [[(g,.cells cur T z)]] (.bool (decide (lo≤n∧n≤hi))):=by
 rw [←ZP];exact SN g off cap lo hi cur T z [n] (rA h) (by simp)
theorem XW(g off cap:Nat)(cur:Array Value)(T:TypeId)(z:Nat×Nat)(v:V3)(h:Gt cur off [v.a,v.b,v.c]):
 Av Tryz.prog 237 #[I4 (-1000000000),I4 1000000000,.slice (some ⟨g,off,none⟩) 3 cap] [[(g,.cells cur T z)]] (.bool (decide v.ok)):=by
 rw [←pF];exact SN g off cap _ _ cur T z [v.a,v.b,v.c] h (by simp)
theorem U5(c:Chg)(th:Bool)(v:V3):Av Tryz.prog 206 #[.agg #[I4 c.t,I4 c.k,.bool c.had,I4 c.o.a,I4 c.o.b,I4 c.o.c,.bool c.has,I4 c.n.a,I4 c.n.b,I4 c.n.c],.bool th,.agg #[I4 v.a,I4 v.b,I4 v.c]] [] (.tuple #[.agg #[I4 (EK c th v).t,I4 (EK c th v).k,I4 (EK c th v).v.a,I4 (EK c th v).v.b,I4 (EK c th v).v.c],.bool th]):=by
 refine Se func206 ntmps206 [0,1,2] ?_;intro u R;refine Zq<|Zg<|Ze (Bx #[_,_,_,_,_,_,_,_,_,_]) ?_;rintro _ _ ⟨b1,rfl,rfl⟩;refine Ze (Bx #[_,_,_]) ?_;rintro _ _ ⟨b2,rfl,rfl⟩;refine Ze (Al zeroValue113 #[_,_,_,_,_]) ?_;rintro _ _ ⟨b3,rfl,rfl⟩;refine Za Y<|Z0<|Zx<|Zq<|Zq<|Zg<|Zm Y<|Zv (Ca Y)<|Z0<|Zx ?_;refine Af Y (fun hh=>?_) (fun hh=>?_)
 ·
  refine Zq<|Zg<|Zv (BK (vs:=[]) (cs:=#[_,_,_,_,_]) Y (Aa (pl:=#[(0,1),(1,1),(2,3)]) zeroValue113 underlying113 (fun _=>by kernel_rfl) rfl)) ?_;refine Xe (Xw sizeOf113 _) ?_;refine Za Y<|Z0<|Zx<|A9<|Zt ?_;refine Bb rfl results206 Y Wh (Ah isAgg113 sizeOf113 Wn (rfl)) Y (by simp only [xH,wT,y7]at hh;exact ⟨by(rw [pV hh,hh];rfl),rfl⟩)
 refine AC<|Zx<|Zq<|Zg<|Zh 0 underlying77 rfl rfl sizeOf3 Y<|Zl isAgg3 Y ?_;refine Zh 1 underlying77 rfl rfl sizeOf3 Y<|Zl isAgg3 Y ?_;refine Zo Wh (Pa #[_,_,_] isAgg75 sizeOf75 Y) ?_;refine Zv (BK (vs:=[(0,_),(1,_),(2,_)]) (cs:=#[_,_,_,_,_]) Y (Aa (pl:=#[(0,1),(1,1),(2,3)]) zeroValue113 underlying113 (fun _=>by kernel_rfl) rfl)) ?_;refine Xe (BN sizeOf113 Y Y (by(simp [Value.oneCell',Value.cells];done)) Wu (by rfl) (by first|rfl|(simp;done)) Wn (by exact BQ _)) ?_;refine Za Y<|Z0<|Zn [6,7] ?_;refine Zx<|A9 ?_;refine Bb rfl results206 Y Wh (Ah isAgg113 sizeOf113 Wn (rfl)) Y (by simp only [xH,wT,y7]at hh;exact ⟨by(rw [jh hh,hh];rfl),rfl⟩)
theorem Pw(r:AP):Av Tryz.prog 186 #[.agg #[I4 r.t,I4 r.k,I4 r.v.a,I4 r.v.b,I4 r.v.c]] [] (.bool (decide r.ok)):=by
 refine Se func186 ntmps186 [0] ?_;intro u R;refine Zq<|Zg<|Ze (Bx #[_,_,_,_,_]) ?_;rintro _ _ ⟨b1,rfl,rfl⟩;refine Za Y<|Z0<|Zx<|Zq<|Zg<|Zh 0 underlying113 rfl rfl sizeOf3 Y<|Zl isAgg3 Y ?_;refine Ze (Ae (vs:=[_]) (cs:=[_]) underlying210 sizeOf3 zeroValue3 Y rfl rfl rfl rfl rfl) ?_;rintro _ _ ⟨b2,rfl,rfl⟩;refine Xr [_,_,_] Y call237 Y rfl (Jz _ 0 1 _ _ _ _ _ r.t rfl) ?_;refine Zm Y ?_;refine Aj (t:=7) Y rfl (fun hc1=>?_) (fun hc1=>?_)
 ·
  refine Yf 1 underlying113 rfl rfl sizeOf3 Y<|Yl isAgg3 Y ?_;refine Ze (Ae (vs:=[_]) (cs:=[_]) underlying210 sizeOf3 zeroValue3 Y rfl rfl rfl rfl rfl) ?_;rintro _ _ ⟨b3,rfl,rfl⟩;refine Xr [_,_,_] Y call237 Y rfl (Jz _ 0 1 _ _ _ _ _ r.k rfl) ?_;refine Zv (AL Y Y)<|Zm Y ?_;refine Aj (t:=13) Y rfl (fun hc2=>?_) (fun hc2=>?_)
  ·
   refine Yf 2 underlying113 rfl rfl sizeOf75 Y<|Yg (F4 underlying75 sizeOf3 Y)<|Xr [_,_,_] Y call237 Y rfl (XW _ 2 3 _ _ _ r.v (qy rfl rfl rfl)) ?_;refine Zv (AL Y Y)<|Za Y<|Z0<|Zn [2] ?_;refine Zx<|A9 ?_;refine AB rfl results186 Y (by exact ⟨by(simp_all [AP.ok];done),rfl⟩)
  refine A7 Y rfl<|A7 Y rfl<|A7 Y rfl<|Zv (AA Y Y)<|Za Y<|Z0<|Zn [2] ?_;refine Zx<|A9 ?_;refine AB rfl results186 Y (by exact ⟨by(simp_all [AP.ok];done),rfl⟩)
 refine A7 Y rfl<|A7 Y rfl<|A7 Y rfl<|A7 Y rfl<|Zv (AA Y Y)<|Zm Y<|A7 Y rfl<|A7 Y rfl<|A7 Y rfl<|Zv (AA Y Y)<|Za Y<|Z0<|Zn [2] ?_;refine Zx<|A9 ?_;refine AB rfl results186 Y (by exact ⟨by rw [decide_eq_false (fun h9:r.ok=>by have h91:=h9.2.1;have h92:=h9.2.2;omega)],rfl⟩)
theorem VK(c:Chg)(th:Bool)(v:V3):Av Tryz.prog 163 #[.agg #[I4 c.t,I4 c.k,.bool c.had,I4 c.o.a,I4 c.o.b,I4 c.o.c,.bool c.has,I4 c.n.a,I4 c.n.b,I4 c.n.c],.bool th,.agg #[I4 v.a,I4 v.b,I4 v.c]] [] (.bool (if th then decide (EK c th v).ok else decide (v=V3.zero))):=by
 refine Se func163 ntmps163 [0,1,2] ?_;intro u R;refine Zq<|Zg<|Ze (Bx #[_,_,_,_,_,_,_,_,_,_]) ?_;rintro _ _ ⟨b1,rfl,rfl⟩;refine Ze (Bx #[_,_,_]) ?_;rintro _ _ ⟨b2,rfl,rfl⟩;refine Za Y<|Z0<|Zx<|Zq<|Zg<|Zo Wh (Pa #[_,_,_,_,_,_,_,_,_,_] isAgg77 sizeOf77 Y) ?_;refine Zm Y<|Zo Wh (Pa #[_,_,_] isAgg75 sizeOf75 Y) ?_;refine Xr [_,_,_] Y call206 Y rfl (U5 c th v) ?_;refine Zm Y<|Zd Y rfl<|Zd Y rfl<|Ze (Al zeroValue113 #[_,_,_,_,_]) ?_;rintro _ _ ⟨b3,rfl,rfl⟩;refine Xe (Xw sizeOf113 _) ?_;refine Za Y<|Z0<|Zn [1,5,7] ?_;refine Zx<|Zq<|Zg<|Zm Y<|Zm Y ?_;refine Ai (t:=17) Y rfl (fun hc1=>?_) (fun hc1=>?_)
 ·
  refine DL Y Wh (Pa #[_,_,_,_,_] isAgg113 sizeOf113 Y) rfl rfl ?_;refine Xr [_] Y call186 Y rfl (Pw _) ?_;refine Zv (AL Y Y)<|Zm Y ?_;refine Aj (t:=21) Y rfl (fun hc2=>?_) (fun hc2=>?_)
  ·
   refine A7 Y rfl<|A7 Y rfl<|A7 Y rfl<|A7 Y rfl<|A7 Y rfl<|A7 Y rfl<|A7 Y rfl<|Zv (AL Y Y)<|Za Y<|Z0<|Zn [6] ?_;refine Zx<|A9 ?_;refine AB rfl results163 Y (by exact ⟨by simp_all,rfl⟩)
  refine Zf Y Y<|Yg (Ca Y)<|Zf Y Y ?_;refine Ai (t:=24) Y rfl (fun hc3=>?_) (fun hc3=>?_)
  ·
   refine DL Y Wh (Pa #[_,_,_] isAgg75 sizeOf75 Y) rfl rfl ?_;refine Yg (BK (vs:=[]) (cs:=#[_,_,_]) Y (Ch zeroValue75 underlying75 sizeOf3 rfl)) ?_;refine Yg (Hm (by kernel_rfl) underlying75 underlying3 isAgg3 sizeOf3 Y Y) ?_;refine Yg (AL Y Y)<|Zv (AA Y Y)<|Za Y<|Z0<|Zn [6] ?_;refine Zx<|A9 ?_;refine AB rfl results163 Y (by exact ⟨by simp_all,rfl⟩)
  refine A7 Y rfl<|A7 Y rfl<|A7 Y rfl<|Yg (AA Y Y)<|Zv (AA Y Y)<|Za Y<|Z0<|Zn [6] ?_;refine Zx<|A9 ?_;refine AB rfl results163 Y (by exact ⟨by simp_all,rfl⟩)
 refine A7 Y rfl<|A7 Y rfl<|Zv (AA Y Y)<|Zm Y<|Zf Y Y<|Yg (Ca Y)<|Zf Y Y ?_;refine Ai (t:=24) Y rfl (fun hc4=>?_) (fun hc4=>?_)
 ·
  refine DL Y Wh (Pa #[_,_,_] isAgg75 sizeOf75 Y) rfl rfl ?_;refine Yg (BK (vs:=[]) (cs:=#[_,_,_]) Y (Ch zeroValue75 underlying75 sizeOf3 rfl)) ?_;refine Yg (Hm (by kernel_rfl) underlying75 underlying3 isAgg3 sizeOf3 Y Y) ?_;refine Yg (AL Y Y)<|Zv (AA Y Y)<|Za Y<|Z0<|Zn [6] ?_;refine Zx<|A9 ?_;refine AB rfl results163 Y (by exact ⟨by simp_all,rfl⟩)
 refine A7 Y rfl<|A7 Y rfl<|A7 Y rfl<|Yg (AA Y Y)<|Zv (AA Y Y)<|Za Y<|Z0<|Zn [6] ?_;refine Zx<|A9 ?_;refine AB rfl results163 Y (by exact ⟨by simp_all,rfl⟩)
def oV(c:Chg):Bool:=if c.had then decide c.before.ok else decide (c.o=V3.zero)
def oW(c:Chg):Bool:=if c.has then decide c.after.ok else decide (c.n=V3.zero)
theorem Px(c:Chg):Av Tryz.prog 163 #[.agg #[I4 c.t,I4 c.k,.bool c.had,I4 c.o.a,I4 c.o.b,I4 c.o.c,.bool c.has,I4 c.n.a,I4 c.n.b,I4 c.n.c],.bool c.had,.agg #[I4 c.o.a,I4 c.o.b,I4 c.o.c]] [] (.bool (oV c)):=VK c c.had c.o
theorem Py(c:Chg):Av Tryz.prog 163 #[.agg #[I4 c.t,I4 c.k,.bool c.had,I4 c.o.a,I4 c.o.b,I4 c.o.c,.bool c.has,I4 c.n.a,I4 c.n.b,I4 c.n.c],.bool c.has,.agg #[I4 c.n.a,I4 c.n.b,I4 c.n.c]] [] (.bool (oW c)):=VK c c.has c.n
theorem KQ{c:Chg}(hne:c.had≠c.has∨(c.had=true∧c.o≠c.n)):decide c.ok=(oV c&&oW c):=by
 unfold oV oW;cases h1:c.had<;>cases h2:c.has<;>simp_all [Chg.ok]
 all_goals (by_cases h3:c.before.ok<;>by_cases h4:c.after.ok<;>by_cases h5:c.o=V3.zero<;>by_cases h6:c.n=V3.zero<;>simp_all)
theorem kS{c:Chg}(h:c.had=c.has)(h2:c.had=true→c.o=c.n):decide c.ok=false:=by
 cases h1:c.had<;>simp_all [Chg.ok]
 all_goals (rw [←h]at*;simp_all)
set_option maxHeartbeats 4000000 in
theorem SQ(c:Chg):Av Tryz.prog 85 #[.agg #[I4 c.t,I4 c.k,.bool c.had,I4 c.o.a,I4 c.o.b,I4 c.o.c,.bool c.has,I4 c.n.a,I4 c.n.b,I4 c.n.c]] [] (.bool (decide c.ok)):=by
 refine Se func85 ntmps85 [0] ?_;intro u R;refine Zq<|Zg<|Ze (Bx #[_,_,_,_,_,_,_,_,_,_]) ?_;rintro _ _ ⟨b1,rfl,rfl⟩;refine Za Y<|Z0<|Zx<|Zq<|Zg<|Zh 2 underlying77 rfl rfl sizeOf4 Y<|Zl isAgg4 Y ?_;refine Zh 6 underlying77 rfl rfl sizeOf4 Y<|Zl isAgg4 Y ?_;refine Zv (K6 underlying4 Y Y)<|Zm Y ?_;refine Aj (t:=9) Y rfl (fun hc1=>?_) (fun hc1=>?_)
 ·
  refine A7 Y rfl<|A7 Y rfl<|A7 Y rfl<|A7 Y rfl<|A7 Y rfl<|A7 Y rfl<|A7 Y rfl<|A7 Y rfl<|A7 Y rfl<|Zv (AL Y Y)<|Za Y<|Z0<|Zn [1,3] ?_;refine Zx<|Zq<|Zg<|Zm Y<|Zm Y<|DL Y Wh (Pa #[_,_,_,_,_,_,_,_,_,_] isAgg77 sizeOf77 Y) rfl rfl ?_;refine Yf 2 underlying77 rfl rfl sizeOf4 Y<|Yl isAgg4 Y ?_;refine Yf 3 underlying77 rfl rfl sizeOf75 Y<|DL Y Wh (Pa #[_,_,_] isAgg75 sizeOf75 Y) rfl rfl ?_;refine Xr [_,_,_] Y call163 Y rfl (Px c) ?_;refine Zv (AL Y Y)<|Zm Y ?_;refine Ai (t:=29) Y rfl (fun hc2=>?_) (fun hc2=>?_)
  ·
   refine DL Y Wh (Pa #[_,_,_,_,_,_,_,_,_,_] isAgg77 sizeOf77 Y) rfl rfl ?_;refine Yf 6 underlying77 rfl rfl sizeOf4 Y<|Yl isAgg4 Y ?_;refine Yf 7 underlying77 rfl rfl sizeOf75 Y<|DL Y Wh (Pa #[_,_,_] isAgg75 sizeOf75 Y) rfl rfl ?_;refine Xr [_,_,_] Y call163 Y rfl (Py c) ?_;refine Zv (AL Y Y)<|Za Y<|Z0<|Zn [2] ?_;refine Zx<|A9 ?_;refine AB rfl results85 Y (by exact ⟨by rw [KQ (.inl hc1),hc2,xV],rfl⟩)
  refine A7 Y rfl<|A7 Y rfl<|A7 Y rfl<|A7 Y rfl<|A7 Y rfl<|A7 Y rfl<|Zv (AA Y Y)<|Za Y<|Z0<|Zn [2] ?_;refine Zx<|A9 ?_;refine AB rfl results85 Y (by exact ⟨by rw [KQ (.inl hc1),hc2,Bool.false_and],rfl⟩)
 refine Yf 2 underlying77 rfl rfl sizeOf4 Y<|Yl isAgg4 Y ?_;refine Zf Y Y ?_;refine Ai (t:=12) Y rfl (fun hc3=>?_) (fun hc3=>?_)
 ·
  refine Yf 3 underlying77 rfl rfl sizeOf75 Y<|DL Y Wh (Pa #[_,_,_] isAgg75 sizeOf75 Y) rfl rfl ?_;refine Yf 7 underlying77 rfl rfl sizeOf75 Y<|DL Y Wh (Pa #[_,_,_] isAgg75 sizeOf75 Y) rfl rfl ?_;refine Yg (K7 (by kernel_rfl) underlying75 underlying3 isAgg3 sizeOf3 Y Y) ?_;refine Yg (AL Y Y)<|Zv (AA Y Y)<|Za Y<|Z0<|Zn [1,3] ?_;refine Zx<|Zq<|Zg<|Zm Y<|Zm Y ?_;refine Aj (t:=21) Y rfl (fun hc4=>?_) (fun hc4=>?_)
  ·
   refine DL Y Wh (Pa #[_,_,_,_,_,_,_,_,_,_] isAgg77 sizeOf77 Y) rfl rfl ?_;refine Yf 2 underlying77 rfl rfl sizeOf4 Y<|Yl isAgg4 Y ?_;refine Yf 3 underlying77 rfl rfl sizeOf75 Y<|DL Y Wh (Pa #[_,_,_] isAgg75 sizeOf75 Y) rfl rfl ?_;refine Xr [_,_,_] Y call163 Y rfl (Px c) ?_;refine Zv (AL Y Y)<|Zm Y ?_;refine Ai (t:=29) Y rfl (fun hc5=>?_) (fun hc5=>?_)
   ·
    refine DL Y Wh (Pa #[_,_,_,_,_,_,_,_,_,_] isAgg77 sizeOf77 Y) rfl rfl ?_;refine Yf 6 underlying77 rfl rfl sizeOf4 Y<|Yl isAgg4 Y ?_;refine Yf 7 underlying77 rfl rfl sizeOf75 Y<|DL Y Wh (Pa #[_,_,_] isAgg75 sizeOf75 Y) rfl rfl ?_;refine Xr [_,_,_] Y call163 Y rfl (Py c) ?_;refine Zv (AL Y Y)<|Za Y<|Z0<|Zn [2] ?_;refine Zx<|A9 ?_;refine AB rfl results85 Y (by exact ⟨by rw [KQ (.inr ⟨hc3,hc4⟩),hc5,xV],rfl⟩)
   refine A7 Y rfl<|A7 Y rfl<|A7 Y rfl<|A7 Y rfl<|A7 Y rfl<|A7 Y rfl<|Zv (AA Y Y)<|Za Y<|Z0<|Zn [2] ?_;refine Zx<|A9 ?_;refine AB rfl results85 Y (by exact ⟨by rw [KQ (.inr ⟨hc3,hc4⟩),hc5,Bool.false_and],rfl⟩)
  refine A7 Y rfl<|A7 Y rfl<|A7 Y rfl<|A7 Y rfl<|A7 Y rfl<|A7 Y rfl<|Zv (AA Y Y)<|Zm Y<|A7 Y rfl<|A7 Y rfl<|A7 Y rfl<|A7 Y rfl<|A7 Y rfl<|A7 Y rfl<|Zv (AA Y Y)<|Za Y<|Z0<|Zn [2] ?_;refine Zx<|A9 ?_;refine AB rfl results85 Y (by exact ⟨by rw [kS (uH.1 hc1) (fun _=>uH.1 hc4)],rfl⟩)
 refine A7 Y rfl<|A7 Y rfl<|A7 Y rfl<|A7 Y rfl<|A7 Y rfl<|Yg (AA Y Y)<|Zv (AA Y Y)<|Za Y<|Z0<|Zn [1,3] ?_;refine Zx<|Zq<|Zg<|Zm Y<|Zm Y<|A7 Y rfl<|A7 Y rfl<|A7 Y rfl<|A7 Y rfl<|A7 Y rfl<|A7 Y rfl<|Zv (AA Y Y)<|Zm Y<|A7 Y rfl<|A7 Y rfl<|A7 Y rfl<|A7 Y rfl<|A7 Y rfl<|A7 Y rfl<|Zv (AA Y Y)<|Za Y<|Z0<|Zn [2] ?_;refine Zx<|A9 ?_;refine AB rfl results85 Y (by exact ⟨by rw [kS (uH.1 hc1) (fun h9=>by rw [hc3]at h9;cases h9)],rfl⟩)
theorem rQ{c:Chg}(h:c.ok):0≤c.t:=by
 obtain ⟨h1,h2,_,_⟩:=h;have hb:c.had=true→c.before.ok:=fun h9=>wK fun hn=>h2 (.inl ⟨h9,hn⟩)
 have ha:c.has=true→c.after.ok:=fun h9=>wK fun hn=>h2 (.inr ⟨h9,hn⟩);cases e1:c.had with
 |true=>have:=(hb e1).2.1.1;rw [LD e1]at this;exact this
 |false=>
  cases e2:c.has with
  |true=>have:=(ha e2).2.1.1;rw [JQ e2]at this;exact this
  |false=>exact absurd (.inl ⟨by simp [e1],by simp [e2]⟩) h1
theorem UV{p:Int}{cs:List Chg}{i:Nat}{x y:Chg}(hl:i=0∧y.t=-1∨0<i∧cs[i -1]?=some y)(h:ES p cs)(hx:cs[i]?=some x):y.lt x:=by
 rcases hl with⟨h0,h1⟩|⟨h0,h1⟩
 · left;have:=rQ (h.all i x hx);omega
 · exact h.ord (i -1) y x h1 (by rw [show i -1+1=i by omega];exact hx)
theorem aB{cs:List Chg}{i:Nat}{x y:Chg}(hl:i=0∧y.t=-1∨0<i∧cs[i -1]?=some y)(h:y.lt x):i=0∨∃y,cs[i -1]?=some y∧y.lt x:=by
 rcases hl with⟨h0,h1⟩|⟨h0,h1⟩
 · exact .inl h0
 · exact .inr ⟨y,h1,h⟩
theorem Ny(p:Int)(q:Option Addr)(cap:Nat)(cs:List Chg)(M:List AR)(hO:Dh M (.slice q cs.length cap) cs):Av Tryz.prog 205 #[.agg #[I4 p,.slice q cs.length cap]] [M] (.bool (decide (ES p cs))):=by
 have hml:=mL;obtain ⟨p9,cap9,e9,hol,hg⟩:=hO;injection e9 with e91 e92 e93
 subst e91 e93;refine Se func205 ntmps205 [0] ?_;intro u R;refine Zq<|Zg<|Ze (Bx #[_,_]) ?_;rintro _ _ ⟨b1,rfl,rfl⟩;refine Za Y<|Z0<|Zx<|Zq<|Zq<|Zg<|Zh 0 underlying73 rfl rfl sizeOf3 Y<|Zl isAgg3 Y ?_;refine Ze (Ae (vs:=[_]) (cs:=[_]) underlying210 sizeOf3 zeroValue3 Y rfl rfl rfl rfl rfl) ?_;rintro _ _ ⟨b2,rfl,rfl⟩;refine Xr [_,_,_] Y call237 Y rfl (Jz _ 0 1 _ _ _ _ _ p rfl) ?_;refine Zv (CB Y)<|Zm Y ?_;refine Aj (t:=11) Y rfl (fun hp=>?_) (fun hp=>?_)
 ·
  refine A7 Y rfl<|A7 Y rfl<|A7 Y rfl<|A7 Y rfl<|A7 Y rfl<|A7 Y rfl<|Zv (AL Y Y)<|Z0<|Zn [1,18] ?_;refine Zx<|CE Y<|Zq<|Zg<|Za Y<|Z0<|Zx<|A9<|Zt ?_;refine AB rfl results205 Y (by exact ⟨by rw [decide_eq_false (fun h9:ES p cs=>by have h91:=h9.pos;have h92:=h9.len;first|exact hp h91|(apply hl;omega))],rfl⟩)
 refine Yf 1 underlying73 rfl rfl sizeOf71 Y<|Yl isAgg71 Y ?_;refine Yg (AV underlying71 Y)<|Ze (Ae (vs:=[_]) (cs:=[_]) underlying210 sizeOf3 zeroValue3 Y rfl rfl rfl rfl rfl) ?_;rintro _ _ ⟨b3,rfl,rfl⟩;refine Xr [_,_,_] Y call237 Y rfl (Jz _ 0 1 _ _ _ _ _ (cs.length:Int) rfl) ?_;refine Yg (CB Y)<|Zv (AA Y Y)<|Z0<|Zn [1,18] ?_;refine Zx ?_;refine Ao Y (fun hl=>?_) (fun hl=>?_)
 ·
  refine Zq<|Zg<|Za Y<|Z0<|Zx<|A9<|Zt ?_;refine AB rfl results205 Y (by exact ⟨by rw [decide_eq_false (fun h9:ES p cs=>by have h91:=h9.pos;have h92:=h9.len;first|exact hp h91|(apply hl;omega))],rfl⟩)
 refine AC<|Zx<|Zq<|Zg<|Zv (BK (vs:=[(0,_)]) (cs:=#[_,_,_,_,_,_,_,_,_,_]) Y (Aa (pl:=#[(0,1),(1,1),(2,1),(3,3),(6,1),(7,3)]) zeroValue77 underlying77 (fun _=>by kernel_rfl) rfl)) ?_;refine Ze (Al zeroValue77 #[_,_,_,_,_,_,_,_,_,_]) ?_;rintro _ _ ⟨lb,rfl,rfl⟩;refine Xe (BN sizeOf77 Y Y (by(simp [Value.oneCell',Value.cells];done)) Wu (by rfl) (by first|rfl|(simp;done)) Wn (by exact BQ _)) ?_;refine Z0<|Zx<|Zq<|Zq<|Zg<|Zh 1 underlying73 rfl rfl sizeOf71 Y<|Zl isAgg71 Y ?_;refine Zv (AV underlying71 Y)<|Zm Y<|Z0<|Zx<|AQ<|Zb [23,3,21,22] ?_;refine Az (e0:=[(23,_)]) (fun m e H=>∃(i:Nat) (y:Chg),m=cs.length -i∧(i≤cs.length∧(∀(j:Nat) (c:Chg),j<i→cs[j]?=some c→c.ok)∧(∀(j:Nat) (b c:Chg),j+1<i→cs[j]?=some b→cs[j+1]?=some c→b.lt c)∧(i=0∧y.t=-1∨0<i∧cs[i -1]?=some y))∧e=[(23,I4 (i:Int))]∧H=[[(lb,.cells #[I4 y.t,I4 y.k,.bool y.had,I4 y.o.a,I4 y.o.b,I4 y.o.c,.bool y.has,I4 y.n.a,I4 y.n.b,I4 y.n.c] 77 (0,0))]]) (by exact ⟨0,⟨-1,0,false,V3.zero,false,V3.zero⟩,rfl,⟨by omega,by intro j c hj;omega,by intro j b c hj;omega,.inl ⟨rfl,rfl⟩⟩,rfl,rfl⟩) Wp ?_;rintro _ _ _ ⟨i,y,rfl,⟨hi,hall,hord,hlast⟩,rfl,rfl⟩;refine Zq<|Zg<|Zv (Aq Y Y)<|Z0<|Zx<|Zq ?_;refine Ao Y (fun hlt=>?_) (fun hlt=>?_)
 ·
  obtain ⟨x,hx⟩:∃x,cs[i]?=some x:=⟨_,tF hlt⟩;obtain ⟨g,off,cur,T,zz,rfl,hm,hsz,hex⟩:=hg i x hx;refine AC<|Zx<|Zq<|AQ<|Zq<|Zg ?_;refine BM (AU underlying71 sizeOf77 Y Y (by first|omega|decide|(simp;done))) ?_;refine Cf (cs:=[(g,.cells cur T zz)]) (by simp [hm]) (AX (cs:=#[I4 x.t,I4 x.k,.bool x.had,I4 x.o.a,I4 x.o.b,I4 x.o.c,.bool x.has,I4 x.n.a,I4 x.n.b,I4 x.n.c]) isAgg77 sizeOf77 Y (by omega) hex) rfl rfl ?_;refine Ze (Al zeroValue77 #[_,_,_,_,_,_,_,_,_,_]) ?_;rintro _ _ ⟨b5,rfl,rfl⟩;refine Xe (Xw sizeOf77 _) ?_;refine Z0<|Zx<|Zq<|Zq<|Zg<|Zo Wh (Pa #[_,_,_,_,_,_,_,_,_,_] isAgg77 sizeOf77 Y) ?_;refine Xr [_] Y call85 Y rfl (SQ x) ?_;refine Zv (CB Y)<|Zm Y ?_;refine Aj (t:=30) Y rfl (fun hg1=>?_) (fun hg1=>?_)
  ·
   refine A7 Y rfl<|A7 Y rfl<|A7 Y rfl<|A7 Y rfl<|A7 Y rfl<|Zv (AL Y Y)<|Zm Y<|A7 Y rfl<|A7 Y rfl<|A7 Y rfl<|A7 Y rfl<|A7 Y rfl<|A7 Y rfl<|A7 Y rfl<|A7 Y rfl<|A7 Y rfl<|A7 Y rfl<|A7 Y rfl<|A7 Y rfl<|Zv (AL Y Y)<|Z0<|Zn [3,5,21,22,23,50] ?_;refine Zx<|CE Y<|Zq<|Zg<|Za Y<|Z0<|Zx<|A9<|Zt<|AY<|Zt<|Zt<|AY<|Zt ?_;refine AB rfl results205 Y (by exact ⟨by rw [decide_eq_false (fun h9:ES p cs=>by have h91:=UV hlast h9 hx;have h92:=h9.all i x hx;unfold Chg.lt at h91;first|exact hg1 h92|omega)],rfl⟩)
  refine Yf 0 underlying77 rfl rfl sizeOf3 Y<|Yl isAgg3 Y ?_;refine Yf 0 underlying77 rfl rfl sizeOf3 Y<|Yl isAgg3 Y ?_;refine Yg (Eb Y Y)<|Zv (AA Y Y)<|Zm Y ?_;refine Aj (t:=37) Y rfl (fun hg2=>?_) (fun hg2=>?_)
  ·
   refine A7 Y rfl<|A7 Y rfl<|A7 Y rfl<|A7 Y rfl<|A7 Y rfl<|A7 Y rfl<|A7 Y rfl<|A7 Y rfl<|A7 Y rfl<|A7 Y rfl<|A7 Y rfl<|A7 Y rfl<|Zv (AL Y Y)<|Z0<|Zn [3,5,21,22,23,50] ?_;refine Zx<|CE Y<|Zq<|Zg<|Za Y<|Z0<|Zx<|A9<|Zt<|AY<|Zt<|Zt<|AY<|Zt ?_;refine AB rfl results205 Y (by exact ⟨by rw [decide_eq_false (fun h9:ES p cs=>by have h91:=UV hlast h9 hx;have h92:=h9.all i x hx;unfold Chg.lt at h91;first|exact hg1 h92|omega)],rfl⟩)
  refine Yf 0 underlying77 rfl rfl sizeOf3 Y<|Yl isAgg3 Y ?_;refine Yf 0 underlying77 rfl rfl sizeOf3 Y<|Yl isAgg3 Y ?_;refine Yg (CF Y Y)<|Zf Y Y ?_;refine Aj (t:=43) Y rfl (fun hg3=>?_) (fun hg3=>?_)
  ·
   refine Yf 1 underlying77 rfl rfl sizeOf3 Y<|Yl isAgg3 Y ?_;refine Yf 1 underlying77 rfl rfl sizeOf3 Y<|Yl isAgg3 Y ?_;refine Yg (Kn Y Y)<|Yg (AL Y Y)<|Zv (AA Y Y)<|Z0<|Zn [3,5,21,22,23,50] ?_;refine Zx ?_;refine Ao Y (fun ho=>?_) (fun ho=>?_)
   ·
    refine Zq<|Zg<|Za Y<|Z0<|Zx<|A9<|Zt<|AY<|Zt<|Zt<|AY<|Zt ?_;refine AB rfl results205 Y (by exact ⟨by rw [decide_eq_false (fun h9:ES p cs=>by have h91:=UV hlast h9 hx;have h92:=h9.all i x hx;unfold Chg.lt at h91;first|exact hg1 h92|omega)],rfl⟩)
   refine AC<|Zx<|Zg<|Zo Wh (Pa #[I4 x.t,I4 x.k,.bool x.had,I4 x.o.a,I4 x.o.b,I4 x.o.c,.bool x.has,I4 x.n.a,I4 x.n.b,I4 x.n.c] isAgg77 sizeOf77 Y) ?_;refine Xe (Xw sizeOf77 _) ?_;refine Z0<|A8<|Zx<|Zg<|Ya (n:=1) Y Y<|Zm Y<|Z0<|Zn [23,3,21,22] ?_;refine Ab (e':=[(23,_)]) (by exact ⟨i+1,x,rfl,⟨by omega,LF hall hx (uH.1 hg1),Ko hord hx (aB hlast (by unfold Chg.lt;omega)),.inr ⟨by omega,hx⟩⟩,rfl,rfl⟩)
  refine A7 Y rfl<|A7 Y rfl<|A7 Y rfl<|A7 Y rfl<|A7 Y rfl<|Yg (AA Y Y)<|Zv (AA Y Y)<|Z0<|Zn [3,5,21,22,23,50] ?_;refine Zx<|Di Y<|AC<|Zx<|Zg<|Zo Wh (Pa #[I4 x.t,I4 x.k,.bool x.had,I4 x.o.a,I4 x.o.b,I4 x.o.c,.bool x.has,I4 x.n.a,I4 x.n.b,I4 x.n.c] isAgg77 sizeOf77 Y) ?_;refine Xe (Xw sizeOf77 _) ?_;refine Z0<|A8<|Zx<|Zg<|Ya (n:=1) Y Y<|Zm Y<|Z0<|Zn [23,3,21,22] ?_;refine Ab (e':=[(23,_)]) (by exact ⟨i+1,x,rfl,⟨by omega,LF hall hx (uH.1 hg1),Ko hord hx (aB hlast (by unfold Chg.lt;omega)),.inr ⟨by omega,hx⟩⟩,rfl,rfl⟩)
 refine Ar<|Zt<|Zt<|AO<|Zx<|Zq<|Zg<|Za Y<|Z0<|Zx<|A9 ?_;refine AB rfl results205 Y (by exact ⟨by rw [decide_eq_true (⟨by omega,by omega,fun j c hc=>hall j c (by have:=(tH.1 hc).1;omega) hc,fun j b c hb hc=>hord j b c (by have:=(tH.1 hc).1;omega) hb hc⟩:ES p cs)],rfl⟩)
def CU(ls:List Int):List UInt8:=ls.flatMap L6
theorem Cv:∀(ls:List Int),(∀n∈ls,-4611686018427387903≤n∧n≤4611686018427387903)→(CU ls).length≤ls.length*9
 |[],_=>by simp [CU]
 |n::ls,h=>by
  have h1:=Cv ls (fun m hm=>h m (by simp [hm]));have h2:=GR n (h n (by simp)).1 (h n (by simp)).2
  unfold CU at*;rw [ui,tK,tY];omega
theorem Oj(ls:List Int)(n:Int):CU (ls++[n])=CU ls++L6 n:=by simp [CU]
theorem Pz(g off cap:Nat)(cur:Array Value)(T:TypeId)(z:Nat×Nat)(ls:List Int)(hin:Gt cur off ls)(hn:ls.length≤1073741824)(hr:∀n∈ls,-4611686018427387903≤n∧n≤4611686018427387903):
 Av Tryz.prog 199 #[.slice (some ⟨g,off,none⟩) ls.length cap] [[(g,.cells cur T z)]] (.string (str (CU ls))):=by
 have hml:=mL;refine Se func199 ntmps199 [0] ?_;intro u R;refine Zq<|Zg<|Za Y<|Z0<|Zx<|Zq<|Zg<|Za Y<|Z0<|Zx<|Zq<|Zq<|Zg<|Zm Y<|Zv (AV underlying210 Y)<|Zm Y<|Z0<|Zx<|AQ<|Zb [3,10,8,9] ?_;refine Az (e0:=[(3,_),(10,_)]) (fun m e H=>∃(i:Nat),m=ls.length -i∧(i≤ls.length)∧e=[(3,.string (str (CU (ls.take i)))),(10,I4 (i:Int))]∧H=[]) (by exact ⟨0,rfl,tX _,rfl,rfl⟩) Wp ?_;rintro _ _ _ ⟨i,rfl,hi,rfl,rfl⟩;refine Zq<|Zg<|Zv (Aq Y Y)<|Z0<|Zx<|Zq ?_;refine Ao Y (fun hlt=>?_) (fun hlt=>?_)
 ·
  obtain ⟨x,hx⟩:∃x,ls[i]?=some x:=⟨_,tF hlt⟩;have hxr:=hr x (tV hx)
  have htk:ls.take (i+1)=ls.take i++[x]:=by rw [vK,hx];rfl
  have hpl:=Cv (ls.take i) (fun m hm=>hr m (vD hm));have htl:(ls.take i).length≤i:=xR ..
  have hel:=GR x hxr.1 hxr.2;refine AC<|Zx<|Zq<|AQ<|Zq<|Zg ?_;refine BM (BS underlying210 sizeOf3 Y Y (by omega)) ?_;refine Zl isAgg3 Y (hv:=by exact hin i x hx) ?_;refine Za Y<|Z0<|Zx<|Zq<|Zg<|Zm Y<|Xr [_] Y call102 Y rfl (Kk x hxr.1 hxr.2) ?_;refine Zm Y<|Zd Y rfl<|Zd Y rfl<|Za Y<|Za Y<|Z0<|Zx<|Zg<|Zm Y<|Zm Y ?_;refine BM (Dc Y Y (by rw [Ba,Ba];omega)) ?_;refine Za Y<|Z0<|Zn [3,8,9,10] ?_;refine A8<|Zx<|Zg<|Ya (n:=1) Y Y<|Zm Y<|Z0<|Zn [3,10,8,9] ?_;refine Ab (e':=[(3,_),(10,_)]) (by exact ⟨i+1,rfl,by omega,by rw [htk,Oj,←E8],rfl⟩)
 refine Ar<|Zt<|Zt<|AO<|Zx<|Zq<|Zg<|Zm Y<|Za Y<|Z0<|Zx<|A9 ?_;refine AB rfl results199 Y (by exact ⟨by rw [uN (by omega)],rfl⟩)
theorem Y7(s:List UInt8):Av Tryz.prog 98 #[.string (str s)] [] (.bool (decide (s.length=32))):=by
 have hss:=Ba s;refine Se func98 ntmps98 [0] ?_;intro u R;refine Zq<|Zg<|Za Y<|Z0<|Zx<|Zq<|Zg<|Zm Y<|Zv (EN underlying9 Y)<|Zv (C8 (n:=32) Y Y)<|Za Y<|Z0<|Zx<|A9 ?_;refine AB rfl results98 Y (by exact ⟨by rw [hss],rfl⟩)
theorem Qk(p:Int)(a b:List UInt8):Av Tryz.prog 149 #[.agg #[I4 p,.string (str a),.string (str b)]] [] (.bool (decide ((0≤p∧p≤10000)∧a.length=32∧b.length=32))):=by
 refine Se func149 ntmps149 [0] ?_;intro u R;refine Zq<|Zg<|Ze (Bx #[_,_,_]) ?_;rintro _ _ ⟨b1,rfl,rfl⟩;refine Za Y<|Z0<|Zx<|Zq<|Zg<|Zh 0 underlying67 rfl rfl sizeOf3 Y<|Zl isAgg3 Y ?_;refine Zv (GZ Y Y)<|Zm Y ?_;refine Aj (t:=6) Y rfl (fun h1=>?_) (fun h1=>?_)
 ·
  refine Yf 0 underlying67 rfl rfl sizeOf3 Y<|Yl isAgg3 Y ?_;refine Yg (Kn Y Y)<|Zv (AL Y Y)<|Zm Y ?_;refine Aj (t:=11) Y rfl (fun h2=>?_) (fun h2=>?_)
  ·
   refine Yf 1 underlying67 rfl rfl sizeOf9 Y<|Yl isAgg9 Y ?_;refine Xr [_] Y call98 Y rfl (Y7 a) ?_;refine Zv (AL Y Y)<|Zm Y ?_;refine Aj (t:=16) Y rfl (fun h3=>?_) (fun h3=>?_)
   ·
    refine Yf 2 underlying67 rfl rfl sizeOf9 Y<|Yl isAgg9 Y ?_;refine Xr [_] Y call98 Y rfl (Y7 b) ?_;refine Zv (AL Y Y)<|Za Y<|Z0<|Zn [2] ?_;refine Zx<|A9 ?_;refine AB rfl results149 Y (by exact ⟨by(simp_all;done),rfl⟩)
   refine A7 Y rfl<|A7 Y rfl<|A7 Y rfl<|Zv (AA Y Y)<|Za Y<|Z0<|Zn [2] ?_;refine Zx<|A9 ?_;refine AB rfl results149 Y (by exact ⟨by(simp_all;done),rfl⟩)
  refine A7 Y rfl<|A7 Y rfl<|A7 Y rfl<|Zv (AA Y Y)<|Zm Y<|A7 Y rfl<|A7 Y rfl<|A7 Y rfl<|Zv (AA Y Y)<|Za Y<|Z0<|Zn [2] ?_;refine Zx<|A9 ?_;refine AB rfl results149 Y (by exact ⟨by rw [decide_eq_false (fun h9=>by have h91:=h9.1;omega)],rfl⟩)
 refine A7 Y rfl<|A7 Y rfl<|A7 Y rfl<|Zv (AA Y Y)<|Zm Y<|A7 Y rfl<|A7 Y rfl<|A7 Y rfl<|Zv (AA Y Y)<|Zm Y<|A7 Y rfl<|A7 Y rfl<|A7 Y rfl<|Zv (AA Y Y)<|Za Y<|Z0<|Zn [2] ?_;refine Zx<|A9 ?_;refine AB rfl results149 Y (by exact ⟨by rw [decide_eq_false (fun h9=>by have h91:=h9.1;omega)],rfl⟩)
structure Cm where
 p:Int
 ch:List UInt8
 st:List UInt8
theorem Ha{sz:Nat}{e:TypeId}{v:Value}{k:Nat}{xs:List Value}{s:List AR}(h:BX sz e v k xs s)(i:Nat)(hi:i<k):∃g cap cur z,v=I6 g k cap∧s=[(g,.cells cur e z)]∧i*sz+sz≤cur.size∧(cur.extract (i*sz) (i*sz+sz)).toList=(xs.drop (i*sz)).take sz:=by
 obtain ⟨hl,⟨_,h0,_⟩|⟨g,cap,cur,z,rfl,rfl,hk,hc,hsz,htk,hf⟩⟩:=h
 · omega
 · have h1:i*sz+sz≤k*sz:=by
    have:=vY sz (Nat.succ_le_of_lt hi);rw [Nat.succ_mul]at this;exact this
   have h2:k*sz≤cap*sz:=vY sz hk;refine ⟨g,cap,cur,z,rfl,rfl,by omega,?_⟩;rw [←htk,Array.toList_extract,List.extract_eq_take_drop,zU,xB];congr 1;omega
def Ac(rs:List AP):List Value:=rs.flatMap (fun r=>[I4 r.t,I4 r.k,I4 r.v.a,I4 r.v.b,I4 r.v.c])
theorem GN{α:Type}(f:α→List Value)(sz:Nat)(hf:∀a,(f a).length=sz):∀(l:List α) (i:Nat) (a:α),l[i]?=some a→((l.flatMap f).drop (i*sz)).take sz=f a
 |x::l,0,a,h=>by
  injection h with h;subst h
  rw [yA,wO,ui,vP (by rw [hf];exact tQ _),uN (by rw [hf];exact tQ _)]
 |x::l,i+1,a,h=>by
  have e1:(f x++l.flatMap f).drop sz=l.flatMap f:=by
   have h9:=List.drop_left (l₁:=f x) (l₂:=l.flatMap f);rwa [hf]at h9
  rw [ui,Nat.succ_mul,Nat.add_comm,←yH,e1];exact GN f sz hf l i a h
theorem Jb{e:TypeId}{v:Value}{rs:List AP}{s:List AR}(h:BX 5 e v rs.length (Ac rs) s)(hn:rs.length≤maxLen):Yt s v rs:=by
 obtain ⟨b,cap,rfl⟩:=h.form;refine ⟨b,cap,rfl,hn,fun i r hr=>?_⟩;obtain ⟨g,cap',cur,z,hv,rfl,hsz,hex⟩:=Ha h i (tH.1 hr).1;injection hv with hv1 hv2 hv3
 refine ⟨g,0,cur,e,z,hv1,tq.2 rfl,by omega,?_⟩;rw [uL];apply vS.1;rw [hex];exact GN _ 5 (fun _=>rfl) rs i r hr
def Ck(cs:List Chg):List Value:=cs.flatMap (fun c=>[I4 c.t,I4 c.k,.bool c.had,I4 c.o.a,I4 c.o.b,I4 c.o.c,.bool c.has,I4 c.n.a,I4 c.n.b,I4 c.n.c])
theorem Tj{e:TypeId}{v:Value}{rs:List Chg}{s:List AR}(h:BX 10 e v rs.length (Ck rs) s)(hn:rs.length≤maxLen):Dh s v rs:=by
 obtain ⟨b,cap,rfl⟩:=h.form;refine ⟨b,cap,rfl,hn,fun i r hr=>?_⟩;obtain ⟨g,cap',cur,z,hv,rfl,hsz,hex⟩:=Ha h i (tH.1 hr).1;injection hv with hv1 hv2 hv3
 refine ⟨g,0,cur,e,z,hv1,tq.2 rfl,by omega,?_⟩;rw [uL];apply vS.1;rw [hex];exact GN _ 10 (fun _=>rfl) rs i r hr
def Gn(hs:List Cm):List Value:=hs.flatMap (fun h=>[I4 h.p,.string (str h.ch),.string (str h.st)])
end Go.Proofs.YtkdgffcfmgmemaaGreatDoor
