/- Rows in memory. -/
/- Roots of lists, in plain words. -/
/- slices.Backward; digest.Root. -/
/- digest.left, Proof. -/
import Derived.Test.YtkdgffcfmgmemaaGreatDoorEz
import Derived.Test.YtkdgffcfmgmemaaGreatDoorKs13
import Derived.Test.YtkdgffcfmgmemaaGreatDoorEx17
import Derived.Test.YtkdgffcfmgmemaaGreatDoorEx22
import Derived.Test.YtkdgffcfmgmemaaGreatDoorEx25
import Derived.Test.YtkdgffcfmgmemaaGreatDoorLg1
import Derived.Test.YtkdgffcfmgmemaaGreatDoorEx6
set_option linter.unusedVariables false
set_option linter.unusedSimpArgs false
namespace Go.Proofs.YtkdgffcfmgmemaaGreatDoor
open Go.Proofs.Tryz
open Go Go.RowKit Gw
set_option maxRecDepth 100000
attribute [local irreducible] Gw.At Gw.Nx Gw.Ops
def DV(M:List AR)(v:Value)(rs:List AP):Prop:=∃p cap,v= .slice p rs.length cap∧(rs.length≤maxLen∧rs.length≤cap)∧∀(i:Nat) (x:AP),rs[i]?=some x→∃g off cur T zz,p=some ⟨g,off,none⟩∧(g,Obj.cells cur T zz)∈M∧off+i*5+5≤cur.size∧cur.extract (off+i*5) (off+i*5+5)=#[I4 x.t,I4 x.k,I4 x.v.a,I4 x.v.b,I4 x.v.c]
theorem Dv{e:TypeId}{v:Value}{rs:List AP}{s:List AR}(h:BX 5 e v rs.length (Ac rs) s)(hn:rs.length≤maxLen):DV s v rs:=by
 obtain ⟨b,cap,rfl⟩:=h.form;refine ⟨b,cap,rfl,⟨hn,FD h⟩,fun i x hx=>?_⟩;obtain ⟨g,cap',cur,z,hv,rfl,hsz,hex⟩:=Ha h i (tH.1 hx).1;injection hv with hv1 hv2 hv3
 refine ⟨g,0,cur,e,z,hv1,by simp,by omega,?_⟩;unfold Ac at hex;rw [GN _ 5 (fun _=>rfl) rs i x hx]at hex;rw [uL];exact vS.1 hex
theorem DV.mono{M M':List AR}{v:Value}{ls:List AP}(h:DV M v ls)(hm:∀c∈M,c∈M'):DV M' v ls:=by
 obtain ⟨p,cap,e,hl,hg⟩:=h;refine ⟨p,cap,e,hl,fun i s hs=>?_⟩;obtain ⟨g,off,cur,T,zz,e1,h1,h2⟩:=hg i s hs;exact ⟨g,off,cur,T,zz,e1,hm _ h1,h2⟩
theorem FQ(r:AP)(c:Int)(hc:0≤c∧c≤3):Av Tryz.prog 97 #[.agg #[I4 r.t,I4 r.k,I4 r.v.a,I4 r.v.b,I4 r.v.c],I4 c] [] (I4 (Be r c)):=fun u R w hs=>
 (JA r c hc w).mono (by
   rintro e w' ⟨rfl,q,o,rfl⟩;exact .inl ⟨_,[],rfl,⟨rfl,rfl⟩,VJ hs q _⟩)
theorem NV{cur xs:Array Value}{a n:Nat}(h:cur.extract a (a+n)=xs)(hs:a+n≤cur.size)(j:Nat)(hj:j<n):cur[a+j]?=xs[j]?:=by
 rw [←h,wW,if_pos (by omega)]
theorem GU{p q:Prop} [Decidable p] [Decidable q](h:p↔q):Value.bool (decide p)=Value.bool (decide q):=by rw [decide_eq_decide.2 h]
theorem L8{P:Program}{f:FuncId}{args:Array Value}{v:Value}{M:List AR}(h:Av P f args [] v):Av P f args [M] v:=fun u R w hs=>
 Calls.mono (h u ([M]++R) w hs) fun e w' he=>by
  rcases he with⟨v',H',rfl,⟨rfl,rfl⟩,h2⟩|⟨ch,H',rfl,h1,h2⟩
  · exact .inl ⟨_,[M],rfl,⟨rfl,rfl⟩,h2⟩
  · exact h1.elim
theorem Wz{P:Program}{f:FuncId}{args:Array Value}{v:Value}{A B:List AR}(h:Av P f args [B] v):Av P f args [A++B] v:=fun u R w hs=>
 Calls.mono (h u ([A]++R) w (hs.perm (by simp only [uW,uG,xW,uR];rw [←tO];exact uj.append_right _))) fun e w' he=>by
  rcases he with⟨v',H',rfl,⟨rfl,rfl⟩,h2⟩|⟨ch,H',rfl,h1,h2⟩
  · refine .inl ⟨_,[A++B],rfl,⟨rfl,rfl⟩,h2.perm ?_⟩
    simp only [uW,uG,xW,uR];rw [←tO];exact uj.append_right _
  · exact h1.elim
theorem eu{P:Program}{f:FuncId}{args:Array Value}{v:Value}{A B:List AR}(h:Av P f args [A++B] v):Av P f args [A,B] v:=by
 refine EB h (by simp) ?_;rintro r H' ⟨rfl,rfl⟩;exact ⟨_,⟨rfl,rfl⟩,by simp⟩
theorem Bo{α:Type}{xs:List α}{j:Nat}{x:α}(h:xs[j]?=some x):xs.take (j+1)=xs.take j++[x]:=by rw [vK,h];rfl
theorem ak{rs:List AP}{k:Nat}{r:AP}(h:rs[k]?=some r):Ac rs=Ac (rs.take k)++(Ac [r]++Ac (rs.drop (k+1))):=by
 rw [←BZ,←BZ];congr 1;obtain ⟨hk,rfl⟩:=tH.1 h;rw [uU,←vB hk,uY]
theorem Kh{rs:List AP}{k:Nat}{r:AP}(h:rs[k]?=some r)(j:Nat)(hj:j<5):(Ac rs)[k*5+j]?=(Ac [r])[j]?:=by
 have hk:=(tH.1 h).1;have e:(Ac (rs.take k)).length=k*5:=by rw [BF,tL];omega
 rw [ak h,vQ (by omega),xE (by rw [e,BF];simp;omega),e,zt]
theorem VO{M:List AR}{p:Option Addr}{n cap:Nat}{rs:List AP}(h:DV M (.slice p n cap) rs):Fa M p (Ac rs):=by
 obtain ⟨p',cap',e,hl,hg⟩:=h;injection e with e1 e2 e3
 subst e1;intro j u hj;have hjl:=(tH.1 hj).1
 rw [BF]at hjl;obtain ⟨x,hx⟩:∃x,rs[j/5]?=some x:=⟨_,tF (by omega)⟩;obtain ⟨g,off,cur,T,zz,rfl,hm,hsz,hex⟩:=hg (j/5) x hx;refine ⟨g,off,cur,T,zz,rfl,hm,?_⟩;have h1:=NV hex hsz (j%5) (by omega)
 have h2:=Kh hx (j%5) (by omega);rw [show j/5*5+j%5=j by omega,hj]at h2;rw [show off+j=off+j/5*5+j%5 by omega,h1,h2,←uO];rfl
theorem He{M:List AR}{v:Value}{rs:List AP}(hv:DV M v rs)(hb:rs.length≤1000000000000):CO Tryz.prog 94 #[v] [M] (fun r H'=>∃sr,BX 5 113 r rs.length (Ac rs) sr∧H'=[sr,M]):=by
 have hml:=mL;obtain ⟨p,cap,rfl,⟨hl,hlc⟩,hg⟩:=id hv;have hcm:Fa M p (Ac rs):=VO hv
 refine Se func94 ntmps94 [0] ?_;intro u R;refine Zq<|Zg<|Za Y<|Z0<|Zx<|Zq<|Zq<|Zg<|Zm Y<|Zv (Fg underlying45 Y Y)<|Z0<|Zx ?_;refine Af Y (fun hp=>?_) (fun hp=>?_)
 ·
  have hp0:p=none:=by cases p with
   |none=>rfl
   |some x=>cases hp
  have h0:rs=[]:=by
   cases rs with
   |nil=>rfl
   |cons x l=>obtain ⟨g,off,cur,T,zz,e9,_⟩:=hg 0 x rfl;rw [hp0]at e9;cases e9
  refine Zq<|Bd ?_;refine Zg<|Za Y<|Z0<|Zx<|A9<|Zt ?_;refine AB rfl results94 Y (by exact ⟨[],by rw [h0];exact BV 5 _,rfl⟩)
 refine AC<|Zx<|Zq<|Zg<|Ze (Gv underlying45 sizeOf113) ?_;rintro _ _ ⟨g1,rfl,rfl⟩;refine Zm Y ?_;refine Ze (LJ (by_:=40) (sz:=5) underlying45 (rfl:Tryz.prog.info? 113=some Tryz.t113) rfl rfl rfl rfl Y (Iq 5 113 g1 0 [] rfl (by decide)) Y (hcm) (by exact BF _) (by decide) Wo Wo (by exact CL _) (by omega) (by omega)) ?_;rintro _ _ ⟨sa1,hra1,rfl⟩;replace hra1:=BO hra1 (uL _) (vN _);refine Za Y<|Z0<|Zx<|A9 ?_;refine AB rfl results94 Y (by exact ⟨_,hra1,rfl⟩)
theorem Lf{α:Type}{a b:List α}(hl:a.length=b.length)(h:∀j,j<a.length→a[j]?=b[j]?):a=b:=by
 apply vg;intro i;rcases uJ i a.length with h9|h9
 · exact h i h9
 · rw [uq h9,uq (by omega)]
theorem E5{α:Type} [DecidableEq α]{a b:α}(h:¬a=b):Value.bool false=Value.bool (decide (a=b)):=congrArg Value.bool (decide_eq_false h).symm
theorem Jr{α:Type} [DecidableEq α]{a b:α}(h:a=b):Value.bool true=Value.bool (decide (a=b)):=congrArg Value.bool (decide_eq_true h).symm
theorem iG{a b:AP}:RI a.t b.t a.k b.k a.v b.v↔a=b:=by
 obtain ⟨t,k,v⟩:=a;obtain ⟨t2,k2,v2⟩:=b;simp [RI]
theorem Wq{M:List AR}{va vb:Value}{a b:List AP}(ha:DV M va a)(hb:DV M vb b):Av Tryz.prog 88 #[va,vb] [M] (.bool (decide (a=b))):=by
 have hml:=mL;obtain ⟨pa,ca,rfl,hla,hga⟩:=ha;obtain ⟨pb,cb,rfl,hlb,hgb⟩:=hb;refine Se func88 ntmps88 [0,1] ?_;intro u R;refine Zq<|Zg<|Za Y<|Z0<|Zx<|Zq<|Zq<|Zg<|Zm Y<|Zv (AV underlying45 Y)<|Zm Y<|Zv (AV underlying45 Y)<|Zv (Dw Y Y)<|Z0<|Zx ?_;refine Ao Y (fun hne=>?_) (fun hne=>?_)
 ·
  refine Zq<|Zg<|Za Y<|Z0<|Zx<|A9<|Zt ?_;refine AB rfl results88 Y (by exact ⟨E5 (fun e=>hne (by rw [e])),rfl⟩)
 have hle:a.length=b.length:=by omega
 refine AC<|Zx<|Zq<|Zq<|Zg<|Zm Y<|Zv (AV underlying45 Y)<|Zm Y<|Z0<|Zx<|AQ<|Zb [13,0,1,12] ?_;refine Az (e0:=[(13,_)]) (fun m e H=>∃(i:Nat),m=a.length -i∧(i≤a.length∧∀j,j<i→a[j]?=b[j]?)∧e=[(13,I4 (i:Int))]∧H=[]) (by exact ⟨0,rfl,⟨tX _,by intro j hj;omega⟩,rfl,rfl⟩) Wp ?_;rintro _ _ _ ⟨i,rfl,⟨hi,hall⟩,rfl,rfl⟩;refine Zq<|Zg<|Zv (Aq Y Y)<|Z0<|Zx<|Zq ?_;refine Ao Y (fun hlt=>?_) (fun hlt=>?_)
 ·
  obtain ⟨x,hx⟩:∃x,a[i]?=some x:=⟨_,tF (by omega)⟩;obtain ⟨y,hy⟩:∃y,b[i]?=some y:=⟨_,tF (by omega)⟩;obtain ⟨g1,off1,cur1,T1,zz1,rfl,hm1,hsz1,hex1⟩:=hga i x hx;obtain ⟨g2,off2,cur2,T2,zz2,rfl,hm2,hsz2,hex2⟩:=hgb i y hy;refine AC<|Zx<|Zq<|AQ<|Zq<|Zg<|Zm Y<|Za Y<|Z0<|Zx<|Zq<|BI (n:=9) (0::0::3::7::0::0::48::112::255::[]) 0 (by kernel_rfl) (by kernel_rfl) rfl ?_;refine Zi 1 0 rfl (AJ Y)<|Zi 3 1 rfl (AJ Y) ?_;refine Zi 7 2 rfl (AU underlying45 sizeOf113 Y Y (by omega)) ?_;refine Fp (b:=g1) (x:= .cells cur1 T1 zz1) (D':=15) 3 rfl rfl rfl (by simp [hm1]) (AX (cs:=#[I4 x.t,I4 x.k,I4 x.v.a,I4 x.v.b,I4 x.v.c]) isAgg113 sizeOf113 Y (by omega) hex1) ?_;refine Zi 31 4 rfl (AJ Y)<|Zi 63 5 rfl (AJ Y) ?_;refine Zi 127 6 rfl (AU underlying45 sizeOf113 Y Y (by omega)) ?_;refine Fp (b:=g2) (x:= .cells cur2 T2 zz2) (D':=255) 7 rfl rfl rfl (by simp [hm2]) (AX (cs:=#[I4 y.t,I4 y.k,I4 y.v.a,I4 y.v.b,I4 y.v.c]) isAgg113 sizeOf113 Y (by omega) hex2) ?_;refine Zi 511 8 rfl (bY (by kernel_rfl) underlying113 (by kernel_rfl) (by decide) (by decide) (by decide) underlying3 underlying75 isAgg3 sizeOf3 isAgg75 sizeOf75 Y Y) ?_;refine Am ?_;refine Zx ?_;refine Ao Y (fun hd=>?_) (fun hd=>?_)
  ·
   refine Zq<|Zg<|Za Y<|Z0<|Zn [4] ?_;refine Zx<|A9<|AY<|Zt<|Zt<|AY<|Zt ?_;refine AB rfl results88 Y (by exact ⟨E5 (fun e=>by rw [e,hy]at hx;injection hx with hx;exact hd (iG.2 hx.symm)),rfl⟩)
  have heq:x=y:=iG.1 (uH.1 hd);refine AC<|A8<|Zx<|Zg<|Ya (n:=1) Y Y<|Zm Y<|Z0<|Zn [13,0,1,12] ?_;refine Ab (e':=[(13,_)]) (by exact ⟨i+1,rfl,⟨by omega,fun j hj=>by rcases uJ j i with h9|h9;exact hall j h9;obtain rfl:j=i:=(by omega);rw [hx,hy];exact congrArg some heq⟩,rfl,rfl⟩)
 refine Ar<|Zt<|Zt<|AO<|Zx<|Zq<|Zg<|Za Y<|Z0<|Zx<|A9 ?_;refine AB rfl results88 Y (by exact ⟨Jr (Lf hle (fun j hj=>hall j (by omega))),rfl⟩)
abbrev Bs:=List UInt8
def M4(s:Bs):Bs:=sha (0::s)
def GA(a b:Bs):Bs:=sha (1::(a++b))
def Bq(n:Nat):Nat:=2^Nat.log2 (n -1)
theorem Hu(n:Nat):0<Bq n:=xh _
theorem IY{n:Nat}(h:2≤n):Bq n<n:=by
 have:=Nat.log2_self_le (n:=n -1) (by omega);unfold Bq;omega
theorem ZZ{n e:Nat}(h1:2^e<n)(h2:n≤2^(e+1)):Bq n=2^e:=by
 unfold Bq;congr 1;refine (Nat.log2_eq_iff (by have:=xh e;omega)).2 ⟨by omega,by omega⟩
theorem mg{n:Nat}(h:2≤n):n≤2*Bq n:=by
 have:=Nat.lt_log2_self (n:=n -1);unfold Bq;rw [yB]at this;omega
def Cq(l:List Bs):Bs:=
 if h:2≤l.length then GA (Cq (l.take (Bq l.length))) (Cq (l.drop (Bq l.length)))
 else match l with
  |[]=>sha []
  |x::_=>M4 x
termination_by l.length
decreasing_by
 · have:=IY h;rw [tL];omega
 · have:=Hu l.length;rw [tN];omega
theorem VR:Cq []=sha []:=by rw [Cq];rfl
theorem QA(x:Bs):Cq [x]=M4 x:=by rw [Cq];rfl
theorem LX{l:List Bs}(h:2≤l.length):Cq l=GA (Cq (l.take (Bq l.length))) (Cq (l.drop (Bq l.length))):=by
 rw [Cq,dif_pos h]
theorem Sd{a b:List Bs}{e:Nat}(ha:a.length=2^e)(h0:0<b.length)(hb:b.length≤2^e):Cq (a++b)=GA (Cq a) (Cq b):=by
 have hp:=xh e;have hl:Bq (a++b).length=a.length:=by
  rw [ha];exact ZZ (by rw [tK];omega) (by rw [tK,yB];omega)
 rw [LX (by rw [tK];omega),hl,ul,wm]
 · rfl
 · rfl
structure J7(ps:List (List Bs)):Prop where
 pow:∀p∈ps,∃e,p.length=2^e
 lt:ps.Pairwise (fun a b=>b.length<a.length)
theorem kX:J7 []:=⟨by simp,.nil⟩
theorem iU{a b:Nat}(h:2^a<2^b):2*2^a≤2^b:=by
 have:=(Nat.pow_lt_pow_iff_right (a:=2) (by omega)).1 h
 calc 2*2^a=2^(a+1):=by rw [yB];omega
  _≤2^b:=Nat.pow_le_pow_right (by omega) this
theorem J7.tail{p:List Bs}{ps:List (List Bs)}(h:J7 (p::ps)):J7 ps:=⟨fun q hq=>h.pow q (by simp [hq]),(wF.1 h.lt).2⟩
theorem J7.init{p:List Bs}{ps:List (List Bs)}(h:J7 (ps++[p])):J7 ps:=⟨fun q hq=>h.pow q (by simp [hq]),(vE.1 h.lt).1⟩
theorem J7.sum:∀{ps:List (List Bs)} {e:Nat},J7 ps→(∀p∈ps,p.length<2^e)→ps.flatten.length<2^e
 |[],e,_,_=>by simpa using xh e
 |p::ps,e,h,hl=>by
  obtain ⟨e1,h1⟩:=h.pow p (by simp);have h2:=hl p (by simp)
  rw [h1]at h2;have h3:=iU h2
  have h4:=J7.sum (e:=e1) h.tail (fun q hq=>by rw [←h1];exact (wF.1 h.lt).1 q hq);rw [uG,tK,h1];omega
theorem J7.nonempty{ps:List (List Bs)}(h:J7 ps)(hn:ps≠[]):0<ps.flatten.length:=by
 cases ps with
 |nil=>exact absurd rfl hn
 |cons p ps=>
  obtain ⟨e,he⟩:=h.pow p (by simp);have:=xh e
  rw [uG,tK];omega
theorem J7.root:∀{ps:List (List Bs)} {q:List Bs},J7 (ps++[q])→ps.foldr (fun p o=>GA (Cq p) o) (Cq q)=Cq (ps.flatten++q)
 |[],q,_=>by simp
 |p::ps,q,h=>by
  rw [List.foldr_cons,J7.root (ps:=ps) (q:=q) h.tail,uG,tO];obtain ⟨e,he⟩:=h.pow p (by simp);have hf:(ps++[q]).flatten=ps.flatten++q:=by simp
  have ht:J7 (ps++[q]):=h.tail;have h1:0<(ps++[q]).flatten.length:=J7.nonempty ht (by simp)
  have h2:=J7.sum (e:=e) ht (fun r hr=>by rw [←he];exact (wF.1 h.lt).1 r hr);rw [hf]at h1 h2;exact (Sd he h1 (by omega)).symm
structure Mg(ls:List Bs)(ps:List (List Bs))(q:List Bs)(i:Nat):Prop where
 bin:J7 ps
 pow:∃e,q.length=2^e
 le:∀p∈ps,q.length≤p.length
 flat:ps.flatten++q=ls.take i
theorem dJ{ls:List Bs}{ps:List (List Bs)}{i:Nat}{s:Bs}(h:J7 ps)(hf:ps.flatten=ls.take i)(hs:ls[i]?=some s):Mg ls ps [s] (i+1):=
 ⟨h,⟨0,rfl⟩,fun p hp=>by
   obtain ⟨e,he⟩:=h.pow p hp;have:=xh e
   rw [he];simp;omega,by rw [vK,hs,hf];rfl⟩
theorem Mg.step{ls:List Bs}{ps:List (List Bs)}{p q:List Bs}{i:Nat}(h:Mg ls (ps++[p]) q i)(e:p.length=q.length):Mg ls ps (p++q) i∧Cq (p++q)=GA (Cq p) (Cq q):=by
 obtain ⟨e1,he⟩:=h.pow;have hp:=xh e1
 refine ⟨⟨h.bin.init,⟨e1+1,by rw [tK,e,he,yB];omega⟩,?_,?_⟩,Sd (e.trans he) (by omega) (by omega)⟩
 · intro r hr
   obtain ⟨e2,h2⟩:=h.bin.pow r (by simp [hr]);have h3:=(vE.1 h.bin.lt).2.2 r hr p (by simp)
   rw [e,he,h2]at h3;have h4:=iU h3
   rw [tK,e,he,h2];omega
 · rw [←h.flat];simp
theorem Mg.done{ls:List Bs}{ps:List (List Bs)}{q:List Bs}{i:Nat}(h:Mg ls ps q i)(hne:∀ps' p,ps=ps'++[p]→p.length≠q.length):J7 (ps++[q])∧(ps++[q]).flatten=ls.take i:=by
 refine ⟨⟨?_,?_⟩,by rw [←h.flat];simp⟩
 · intro r hr
   rcases uF.1 hr with hr|hr
   · exact h.bin.pow r hr
   · rw [tq]at hr
     subst hr;exact h.pow
 · rw [vE]
   refine ⟨h.bin.lt,List.pairwise_singleton _ _,?_⟩;intro a ha b hb;rw [tq]at hb;subst hb;rcases xG ps with rfl|⟨ps',p,rfl⟩
   · simp at ha
   · have h1:=hne ps' p (by simp)
     have h2:=h.le p (by simp);have h3:=h.bin.lt
     simp only [yC]at ha h3;rw [vE]at h3;rcases uF.1 ha with ha|ha
     · have:=h3.2.2 a ha p (by simp)
       omega
     · rw [tq]at ha
       subst ha;omega
theorem lU{cur:Array Value}{xs:List Value}(h:cur.toList.take xs.length=xs){i:Nat}{x:Value}(hx:xs[i]?=some x):cur[i]?=some x:=by
 have hlt:=(tH.1 hx).1;rw [←h,uX,if_pos hlt,uO]at hx;exact hx
theorem jo(ps:List (List Bs))(o:Bs):(ps.map Cq).reverse.foldl (fun o r=>GA r o) o=ps.foldr (fun p o=>GA (Cq p) o) o:=by
 rw [List.foldl_reverse,List.foldr_map]
def Dn(M:List AR)(v:Value)(ls:List Bs):Prop:=∃p cap,v= .slice p ls.length cap∧(ls.length≤maxLen∧ls.length≤cap)∧∀(i:Nat) (s:Bs),ls[i]?=some s→∃g off cur T zz,p=some ⟨g,off,none⟩∧(g,Obj.cells cur T zz)∈M∧cur[off+i]?=some (Dx s)
def rtV(p:List Bs):Value:=Dx (Cq p)
def lnV(p:List Bs):Value:=I4 ((p.length:Nat):Int)
theorem O0{sz:Nat}{e:TypeId}{b:Option Addr}{n c:Nat}{xs:List Value}{s:List AR}(h:BX sz e (.slice b n c) n xs s)(k:Nat)(hk:k≤n):BX sz e (.slice b k c) k (xs.take (k*sz)) s:=by
 obtain ⟨hl,h⟩:=h;refine ⟨by rw [tL,hl,wB (vY _ hk)],?_⟩;rcases h with⟨h1,rfl,rfl⟩|⟨g,cap',cur,z,h1,rfl,h2,h3,h4,h5,h6⟩
 · injection h1 with e1 e2 e3
   subst e1 e3;obtain rfl:k=0:=by omega
   exact .inl ⟨rfl,rfl,rfl⟩
 · injection h1 with e1 e2 e3
   subst e1 e3;refine .inr ⟨g,c,cur,z,rfl,rfl,by omega,h3,h4,?_,h6⟩;rw [←h5,xB,wB (vY _ hk)]
theorem Ke{e:TypeId}{v:Value}{n:Nat}{xs:List Value}{s:List AR}(h:BX 1 e v n xs s)(h0:0<n):∃g cap cur z,v=I6 g n cap∧s=[(g,.cells cur e z)]∧n≤cap∧∀(i:Nat) (x:Value),xs[i]?=some x→cur[i]?=some x:=by
 obtain ⟨hl,⟨_,h1,_⟩|⟨g,cap',cur,z,h1,rfl,h2,h3,h4,h5,h6⟩⟩:=h
 · omega
 · rw [←hl]at h5
   exact ⟨g,cap',cur,z,h1,rfl,h2,fun i x hx=>lU h5 hx⟩
theorem Dn.mono{M M':List AR}{v:Value}{ls:List Bs}(h:Dn M v ls)(hm:∀c∈M,c∈M'):Dn M' v ls:=by
 obtain ⟨p,cap,e,hl,hg⟩:=h;refine ⟨p,cap,e,hl,fun i s hs=>?_⟩;obtain ⟨g,off,cur,T,zz,e1,h1,h2⟩:=hg i s hs;exact ⟨g,off,cur,T,zz,e1,hm _ h1,h2⟩
theorem Fy{e:TypeId}{v:Value}{ls:List Bs}{s:List AR}(h:BX 1 e v ls.length (ls.map Dx) s)(hn:ls.length≤maxLen):Dn s v ls:=by
 rcases vJ ls.length with h0|h0
 · obtain ⟨b,cap,rfl⟩:=h.form
   exact ⟨b,cap,rfl,⟨hn,by omega⟩,fun i s hs=>by rw [uf h0]at hs;simp at hs⟩
 · obtain ⟨g,cap,cur,z,rfl,rfl,hle,hg⟩:=Ke h h0
   refine ⟨_,cap,rfl,⟨hn,hle⟩,fun i s hs=>⟨g,0,cur,e,z,rfl,by simp,?_⟩⟩;rw [uL];exact hg i _ (by rw [uD,hs];rfl)
theorem Ei(l:List Bs):(Cq l).length=32:=by
 rw [Cq];split
 · exact LU _
 · split<;>exact LU _
theorem TS(s:Bs)(hs:s.length≤140737488354000)(Tg:TypeId)(zg:Nat×Nat):Av Tryz.prog 193 #[.string (str s)] [[(1,.cells (Cs.map Bj).toArray Tg zg)]] (.string (str (M4 s))):=by
 refine Se func193 ntmps193 [0] ?_;intro u R;refine Zq<|Zg<|Za Y<|Z0<|Zx<|Zq<|Zg<|Zc [_] Y call243 Y rfl (Kr (str [0])) ?_;rintro _ _ ⟨_,⟨bm,rfl,rfl⟩,rfl⟩;refine Zm Y<|Ze (Ae (vs:=[_]) (cs:=[_]) underlying47 sizeOf9 zeroValue9 Y rfl rfl rfl rfl rfl) ?_;rintro _ _ ⟨bk,rfl,rfl⟩;refine Xr [_] Y call278 Y rfl (Iy bk 0 1 bm #[Dx s] _ _ _ _ [s] [0] rfl (by simp) (by simp) (by simp;omega) _ _) ?_;refine Za Y<|Z0<|Zx<|A9 ?_;refine AB rfl results193 Y (by exact ⟨by simp [M4],rfl⟩)
theorem Lc(a b:Bs)(ha:a.length≤1000000000)(hb:b.length≤1000000000)(Tg:TypeId)(zg:Nat×Nat):Av Tryz.prog 194 #[.string (str a),.string (str b)] [[(1,.cells (Cs.map Bj).toArray Tg zg)]] (.string (str (GA a b))):=by
 refine Se func194 ntmps194 [0,1] ?_;intro u R;refine Zq<|Zg<|Za Y<|Z0<|Zx<|Zq<|Zg<|Zc [_] Y call243 Y rfl (Kr (str [1])) ?_;rintro _ _ ⟨_,⟨bm,rfl,rfl⟩,rfl⟩;refine Zm Y<|Zm Y<|Ze (Ae (vs:=[_,_]) (cs:=[_,_]) underlying47 sizeOf9 zeroValue9 Y rfl rfl rfl rfl rfl) ?_;rintro _ _ ⟨bk,rfl,rfl⟩;refine Xr [_] Y call278 Y rfl (Iy bk 0 2 bm #[Dx a,Dx b] _ _ _ _ [a,b] [1] rfl (by simp) (by simp) (by simp;omega) _ _) ?_;refine Za Y<|Z0<|Zx<|A9 ?_;refine AB rfl results194 Y (by exact ⟨by simp [GA],rfl⟩)
def bwd{α:Type} [Inhabited α](ls:List α):List (Nat×α):=(List.range ls.length).reverse.map (fun i=>(i,ls.getD i default))
theorem Ul{α:Type} [Inhabited α](ls:List α):(bwd ls).length=ls.length:=by simp [bwd]
theorem Yj{α:Type} [Inhabited α]{ls:List α}{m:Nat}{s:α}(h:ls[m]?=some s):(bwd ls)[ls.length -(m+1)]?=some (m,s):=by
 have hlt:=(tH.1 h).1;unfold bwd;rw [uD,List.getElem?_reverse (by simp;omega),yE,xQ (by omega)];rw [show ls.length -1 -(ls.length -(m+1))=m by omega];simp [List.getD,h]
theorem Uk{α:Type} [Inhabited α](ls:List α):(bwd ls).map Prod.snd=ls.reverse:=by
 apply vg;intro i;by_cases hi:i<ls.length
 · have h1:ls[ls.length -1 -i]?=some (ls[ls.length -1 -i]'(by omega)):=tF _
   have h2:=Yj h1;rw [show ls.length -(ls.length -1 -i+1)=i by omega]at h2;rw [uD,h2,List.getElem?_reverse hi,h1];rfl
 · rw [uq (by rw [tJ,Ul];omega),uq (by simp;omega)]
theorem aP{α:Type} [Inhabited α]{ls:List α}{x:Nat×α}(h:x∈bwd ls):x.2∈ls:=by
 have h1:x.2∈(bwd ls).map Prod.snd:=uh.2 ⟨x,h,rfl⟩;rw [Uk,xx]at h1;exact h1
theorem Pj{α:Type}{xs:List α}{j:Nat}{x:α}(h:xs[j]?=some x):xs=xs.take j++x::xs.drop (j+1):=by
 have hlt:=(tH.1 h).1;rw [tF hlt]at h;injection h with h
 rw [←h,←vB hlt,uY]
theorem jr(xs:List Bs)(q:Bs):(bwd xs).foldl (fun o (x:Nat×Bs)=>GA x.2 o) q=xs.reverse.foldl (fun o r=>GA r o) q:=by
 rw [←Uk,List.foldl_map]
theorem U2{α:Type}(f:List α→Value)(ps:List (List α))(p q:List α):(((ps++[p])++[q]).map f)[(ps++[p]).length+1 -2]?=some (f p)∧(((ps++[p])++[q]).map f)[(ps++[p]).length+1 -1]?=some (f q):=by
 have e:(ps++[p]).length=ps.length+1:=by simp
 constructor
 · rw [show(ps++[p]).length+1 -2=ps.length by omega];simp
 · rw [show(ps++[p]).length+1 -1=ps.length+1 by omega];simp
theorem VA{α:Type}(f:List α→Value)(ps:List (List α))(p q:List α):(((ps++[p])++[q]).map f).take (((ps++[p]).length+1 -2)*1)=ps.map f:=by
 rw [show((ps++[p]).length+1 -2)*1=(ps.map f).length by simp];simp
theorem mo{α:Type}(f:List α→Value)(ps:List (List α))(q:List α):((ps++[q]).map f)[(ps++[q]).length -1]?=some (f q):=by
 rw [show(ps++[q]).length -1=ps.length by simp];simp
theorem dP{α:Type}(f:List α→Value)(ps:List (List α))(q:List α):((ps++[q]).map f).take (((ps++[q]).length -1)*1)=ps.map f:=by
 rw [show((ps++[q]).length -1)*1=(ps.map f).length by simp];simp
theorem aA{α:Type}{ps:List α}(h:0<ps.length):∃ps' p,ps=ps'++[p]:=by
 rcases xG ps with rfl|⟨a,b,e⟩
 · simp at h
 · exact ⟨a,b,by rw [e,yC]⟩
theorem jq(xs:List (Nat×Bs))(q:Bs)(hq:q.length=32):(xs.foldl (fun o (x:Nat×Bs)=>GA x.2 o) q).length=32:=by
 rcases xG xs with rfl|⟨ys,y,rfl⟩
 · exact hq
 · rw [yC,wJ];exact LU _
theorem Ru(p:Option Addr)(n c:Nat):CO Tryz.prog 196 #[.slice p n c] [] (fun r H'=>∃b,r= .func (.func 247) #[] #[I5 b]∧H'=[[(b,.cells #[.slice p n c] 47 (0,0))]]):=by
 refine Se func196 ntmps196 [0] ?_;intro u R;refine Zq<|Zg<|Ze (Bx #[_]) ?_;rintro _ _ ⟨b,rfl,rfl⟩;refine Za Y<|Z0<|Zx<|Zq<|Zg<|Zv (Bt (vs:=[]) (us:=[_]) Y Y) ?_;refine Za Y<|Z0<|Zx<|A9 ?_;refine AB rfl results196 Y (by exact ⟨_,rfl,rfl⟩)
theorem Rv{M:List AR}{v:Value}{ls:List Bs}(hv:Dn M v ls)(b:Nat)(hn:ls.length≤1000000000000):
 Lm Tryz.prog 247 #[I5 b] [[(b,.cells #[v] 47 (0,0))]] (fun s=>∀c∈M,c∈s) (fun x=>#[I4 ((x.1:Nat):Int),Dx x.2]) (bwd ls):=by
 have hml:=mL;obtain ⟨p,cap,rfl,hl,hg⟩:=hv;intro l J hA hy s hJ;refine Se func247 ntmps247 [0,1] ?_;intro u R;refine Zq<|Zg<|Zl isAgg47 Y ?_;refine Zv (AV underlying47 Y) ?_
 (refine BM (G8 Y Y (IntWalk.i64_in _ ?_)) ?_;(focus (omega)))
 refine Za Y<|Z0<|Zx<|AQ<|Zb [3,0,1] ?_;refine Az (e0:=[(3,_)]) (fun m e H=>∃(k:Nat) (s:List AR),m=0+k∧(k≤ls.length∧J ((bwd ls).take (ls.length -k)) s)∧e=[(3,I4 ((k:Int) -1))]∧H=[[(b,.cells #[.slice p ls.length cap] 47 (0,0))],s]) (by exact ⟨ls.length,s,rfl,⟨tQ _,by rw [xU,ut];exact hJ⟩,rfl,rfl⟩) Wp ?_;rintro _ _ _ ⟨k,s,rfl,⟨hk,hJ⟩,rfl,rfl⟩;refine Zq<|Zq<|Zg<|Zm Y<|Zv (GZ Y Y)<|Z0<|Zx ?_;refine Ao Y (fun hlt=>?_) (fun hlt=>?_)
 ·
  obtain ⟨m,rfl⟩:∃m,k=m+1:=⟨k -1,by omega⟩;rw [show(((m+1:Nat):Int) -1)=((m:Nat):Int) by omega];obtain ⟨z9,hz9⟩:∃z9,ls[m]?=some z9:=⟨_,tF (by omega)⟩;have hb9:=Yj hz9
  obtain ⟨g,o,cur,T,zz,rfl,hm,hex8⟩:=hg m z9 hz9;have hex9:=hex8
  have hyk:=hy _ _ _ s (Pj hb9) hJ;refine AC<|Zx<|Zq<|AQ<|Zq<|Zg<|Zm Y<|Zm Y<|Zl isAgg47 Y ?_;refine Zm Y ?_;refine BM (BS underlying47 sizeOf9 Y Y (by omega)) ?_;refine Cf (cs:=[(g,.cells cur T zz)]) (by simp [hA _ s hJ _ hm]) (Bf isAgg9 Y (by exact hex9)) rfl rfl ?_;refine Ze (Mj (vs:=[_,_]) Y Y (hyk) Wp) ?_;rintro _ _ ⟨_,⟨s',rfl,rfl,hJ'⟩,rfl⟩;refine Zv (Ca Y)<|Z0<|Zx ?_;refine Af Y (fun hb=>?_) (fun hb=>?_)
  ·
   cases hb
  refine AC<|A8<|Zx<|Zg<|Zm Y ?_
  (refine BM (G8 Y Y (IntWalk.i64_in _ ?_)) ?_;(focus (omega)))
  refine Za Y<|Z0<|Zn [3,0,1] ?_;refine Ab (e':=[(3,_)]) (by exact ⟨m,s',rfl,⟨by omega,by rw [show ls.length -m=ls.length -(m+1)+1 by omega,Bo hb9];exact hJ'⟩,rfl,rfl⟩)
 have hk0:k=0:=by omega
 subst hk0;rw [xA,uN (by rw [Ul];exact tQ _)]at hJ;refine Ar<|Zt<|Zt<|AO ?_;refine Gz rfl results247 (by exact ⟨s,rfl,hJ⟩)
theorem Jc{M:List AR}{v:Value}{ls:List Bs}(hv:Dn M v ls)(hn:ls.length≤1000000)(hs:∀s∈ls,s.length≤140737488354000)(Tg:TypeId)(zg:Nat×Nat):Av Tryz.prog 100 #[v] [[(1,.cells (Cs.map Bj).toArray Tg zg)],M] (.string (str (Cq ls))):=by
 have hml:=mL;obtain ⟨p,cap,rfl,hl,hg⟩:=hv;refine G5 func100 rfl ntmps100 rfl ?_;intro u R;refine Zb [0] ?_;refine Zq<|Zg<|Za Y<|Z0<|Zx<|Zq<|Zg<|Za Y<|Z0<|Zx<|Zq<|Zg<|Za Y<|Z0<|Zx<|Zq<|Zq<|Zg<|Zm Y<|Zv (AV underlying47 Y)<|Zm Y<|Z0<|Zx<|AQ ?_;refine Bd ?_;refine Bd ?_;refine Zb [3,4,13,11,12] ?_;refine Az (e0:=[(3,_),(4,_),(13,_)]) (fun m e H=>∃(i:Nat) (ps:List (List Bs)) (vw:Value) (sw:List AR) (vz:Value) (sz:List AR),m=ls.length -i∧(i≤ls.length∧J7 ps∧ps.flatten=ls.take i∧BX 1 9 vw ps.length (ps.map rtV) sw∧BX 1 3 vz ps.length (ps.map lnV) sz∧ps.length≤i)∧e=[(3,vw),(4,vz),(13,I4 (i:Int))]∧H=[sw,sz]) (by exact ⟨0,[],.slice none 0 0,[],.slice none 0 0,[],rfl,⟨tX _,kX,rfl,BV 1 _,BV 1 _,tQ _⟩,rfl,rfl⟩) Wp ?_;rintro _ _ _ ⟨i,ps,vw,sw,vz,sz,rfl,⟨hi,hB,hf,hrw,hrz,hpi⟩,rfl,rfl⟩;refine Zq<|Zg<|Zv (Aq Y Y)<|Z0<|Zx<|Zq ?_;refine Ao Y (fun hlt=>?_) (fun hlt=>?_)
 ·
  obtain ⟨s9,hs9⟩:∃s9,ls[i]?=some s9:=⟨_,tF hlt⟩;obtain ⟨g,o,cur,T,zz,rfl,hm9,hex9⟩:=hg i s9 hs9;obtain ⟨qw,cw,rfl⟩:=hrw.form;obtain ⟨qz,cz,rfl⟩:=hrz.form;have hs91:=hs s9 (tV hs9)
  refine AC<|Zx<|Zq<|AQ<|Zq<|Zg ?_;refine BM (BS underlying47 sizeOf9 Y Y (by omega)) ?_;refine Cf (cs:=[(g,.cells cur T zz)]) (by simp [hm9]) (Bf isAgg9 Y (by exact hex9)) rfl rfl ?_;refine Za Y<|Z0<|Zx<|Zq<|Zg<|Zm Y<|Zm Y<|Xr [_] Y call193 Y rfl (TS s9 hs91 Tg zg) ?_;refine Ze (Ae (vs:=[_]) (cs:=[_]) underlying47 sizeOf9 zeroValue9 Y rfl rfl rfl rfl rfl) ?_;rintro _ _ ⟨b1,rfl,rfl⟩;refine Ze (DF (by_:=16) (sz:=1) (news:=[_]) underlying47 (rfl:Tryz.prog.info? 9=some Tryz.t9) rfl rfl rfl rfl Y hrw Y Wo Wh (by rfl) rfl (by simp [Value.oneCell']) (by decide) (by omega) (by omega)) ?_;rintro _ _ ⟨sw,hrw,rfl⟩;obtain ⟨gw,cw,rfl⟩:=hrw.form;refine Zm Y<|Ze (Ae (vs:=[_]) (cs:=[_]) underlying210 sizeOf3 zeroValue3 Y rfl rfl rfl rfl rfl) ?_;rintro _ _ ⟨b3,rfl,rfl⟩;refine Ze (DF (by_:=8) (sz:=1) (news:=[_]) underlying210 (rfl:Tryz.prog.info? 3=some Tryz.t3) rfl rfl rfl rfl Y hrz Y Wo Wh (by rfl) rfl (by simp [Value.oneCell']) (by decide) (by omega) (by omega)) ?_;rintro _ _ ⟨sz,hrz,rfl⟩;obtain ⟨gz,cz,rfl⟩:=hrz.form;refine Za Y<|Za Y<|Z0<|Zn [3,4,11,12,13] ?_;refine Zx<|Zq<|Zg<|Zm Y<|Zv (AV underlying210 Y)<|Za Y<|Z0<|Zx<|AQ<|Zb [3,4,7,11,12,13] ?_;refine Az (e0:=[(3,_),(4,_),(7,_)]) (fun m e H=>∃(ps2:List (List Bs)) (q:List Bs) (vw2:Value) (sw2:List AR) (vz2:Value) (sz2:List AR),m=0+ps2.length∧(Mg ls ps2 q (i+1)∧BX 1 9 vw2 (ps2.length+1) ((ps2++[q]).map rtV) sw2∧BX 1 3 vz2 (ps2.length+1) ((ps2++[q]).map lnV) sz2∧ps2.length≤i)∧e=[(3,vw2),(4,vz2),(7,I4 ((ps2.length+1:Nat):Int))]∧H=[sw2,sz2]) (by exact ⟨ps,[s9],_,_,_,_,rfl,⟨dJ hB hf hs9,BO hrw rfl (by rw [uK,vM];unfold rtV;rw [QA];rfl),BO hrz rfl (by rw [uK];rfl),hpi⟩,rfl,rfl⟩) Wp ?_;rintro _ _ _ ⟨ps2,q,vw2,sw2,vz2,sz2,rfl,⟨hM,hrw2,hrz2,hp2⟩,rfl,rfl⟩;refine Zq<|Zq<|BI (n:=15) (0::1::3::7::7::23::63::127::7::7::519::1799::3847::8191::16383::[]) 0 (by kernel_rfl) (by kernel_rfl) rfl ?_;refine Zi 1 0 rfl (AJ Y)<|Zi 3 1 rfl (DJ (n:=1) Y Y)<|Zi 7 2 rfl (AJ Y) ?_;refine CS (t:=29) Y (fun hn9=>?_) (fun hn9=>?_)
  ·
   first|rw [decide_eq_true hn9]|rw [hn9]|skip
   obtain ⟨ps1,p9,rfl⟩:=aA (ps:=ps2) (by omega);have hpl:(ps1++[p9]).length=ps1.length+1:=by simp
   obtain ⟨gw2,cw2,curw2,zw2,rfl,rfl,hlw2,hgw2⟩:=Ke (id hrw2) (by omega);obtain ⟨gz2,cz2,curz2,zz2,rfl,rfl,hlz2,hgz2⟩:=Ke (id hrz2) (by omega);have hz1:=hgz2 _ _ (U2 lnV ps1 p9 q).1
   have hz2:=hgz2 _ _ (U2 lnV ps1 p9 q).2;have hw1:=hgw2 _ _ (U2 rtV ps1 p9 q).1
   have hw2:=hgw2 _ _ (U2 rtV ps1 p9 q).2;have hql:q.length≤ls.length:=by have h9:=congrArg List.length hM.flat;rw [tK,tL]at h9;omega
   refine Ag (D':=15) 3 Y rfl rfl rfl (AJ Y) ?_;refine Ag (D':=31) 4 Y rfl rfl rfl (AJ Y) ?_
   (refine Ag (D':=63) 5 Y rfl rfl rfl (Bg (n:=2) Y Y ?_ ?_) ?_;(focus (omega));(focus (omega)))
   refine Ag (D':=127) 6 Y rfl rfl rfl (BA underlying210 sizeOf3 Y Y (by omega)) ?_;refine Bl (D':=255) 7 Y rfl rfl rfl Wh (Bf isAgg3 Y (by exact hz1)) ?_;refine Ag (D':=511) 8 Y rfl rfl rfl (AJ Y) ?_;refine Ag (D':=1023) 9 Y rfl rfl rfl (AJ Y) ?_
   (refine Ag (D':=2047) 10 Y rfl rfl rfl (Bg (n:=1) Y Y ?_ ?_) ?_;(focus (omega));(focus (omega)))
   refine Ag (D':=4095) 11 Y rfl rfl rfl (BA underlying210 sizeOf3 Y Y (by omega)) ?_;refine Bl (D':=8191) 12 Y rfl rfl rfl Wh (Bf isAgg3 Y (by exact hz2)) ?_;refine Ag (D':=16383) 13 Y rfl rfl rfl (C8 Y Y) ?_;refine Zi 32767 14 rfl (AL Y Y)<|Am ?_;refine Zn [3,4,7,11,12,13,41] ?_;refine Zx ?_;refine Ao Y (fun he=>?_) (fun he=>?_)
   ·
    have hst:=hM.step he;refine AC<|Zx<|Zq<|AQ<|Zq<|BI (n:=18) (0::0::2::7::0::0::32::112::240::0::0::1024::3584::7680::16368::32752::65535::131071::[]) 114688 (by kernel_rfl) (by kernel_rfl) rfl ?_;refine Zi 1 0 rfl (AJ Y)<|Zi 3 1 rfl (AJ Y) ?_
    (refine EF (D':=7) 2 (Bg (n:=2) Y Y ?_ ?_) ?_;(focus (omega));(focus (omega)))
    refine Zi 15 3 rfl (Bc underlying47 sizeOf9 Y Y (by first|omega|(simp;omega))) ?_;refine Zi 31 4 rfl (AJ Y)<|Zi 63 5 rfl (AJ Y) ?_
    (refine EF (D':=127) 6 (Bg (n:=2) Y Y ?_ ?_) ?_;(focus (omega));(focus (omega)))
    refine Zi 255 7 rfl (BA underlying47 sizeOf9 Y Y (by first|omega|(simp;omega))) ?_;refine Zj 511 8 rfl isAgg9 Y (hv:=by exact hw1) ?_;refine Zi 1023 9 rfl (AJ Y)<|Zi 2047 10 rfl (AJ Y) ?_
    (refine EF (D':=4095) 11 (Bg (n:=1) Y Y ?_ ?_) ?_;(focus (omega));(focus (omega)))
    refine Zi 8191 12 rfl (BA underlying47 sizeOf9 Y Y (by first|omega|(simp;omega))) ?_;refine Zj 16383 13 rfl isAgg9 Y (hv:=by exact hw2) ?_;refine Yw 14 32767 rfl (Zu [_,_] Y call194 Y rfl (Lc (Cq p9) (Cq q) (by rw [Ei];omega) (by rw [Ei];omega) Tg zg)) ?_;rintro _ _ ⟨rfl,rfl⟩;refine Yw 15 65535 rfl (Ae (vs:=[_]) (cs:=[_]) underlying47 sizeOf9 zeroValue9 Y rfl rfl rfl rfl rfl) ?_;rintro _ _ ⟨b5,rfl,rfl⟩;refine Yw 16 131071 rfl (DF (by_:=16) (sz:=1) (news:=[_]) underlying47 (rfl:Tryz.prog.info? 9=some Tryz.t9) rfl rfl rfl rfl Y (O0 hrw2 ((ps1++[p9]).length+1 -2) (by omega)) Y Wo Wh (by rfl) rfl (by simp [Value.oneCell']) (by decide) (by omega) (by omega)) ?_;rintro _ _ ⟨sw3,hrw3,rfl⟩;obtain ⟨gw3,cw3,rfl⟩:=hrw3.form;refine Zi 262143 17 rfl (Ay Y)<|Am ?_;refine Zn [3,4,7,11,12,13] ?_;refine Zx<|BI (n:=13) (0::0::2::7::0::0::32::112::240::496::1008::2047::4095::[]) 3072 (by kernel_rfl) (by kernel_rfl) rfl ?_;refine Zi 1 0 rfl (AJ Y)<|Zi 3 1 rfl (AJ Y) ?_
    (refine EF (D':=7) 2 (Bg (n:=2) Y Y ?_ ?_) ?_;(focus (first|omega|(simp;omega)));(focus (first|omega|(simp;omega))))
    refine Zi 15 3 rfl (Bc underlying210 sizeOf3 Y Y (by first|omega|(simp;omega))) ?_;refine Zi 31 4 rfl (AJ Y)<|Zi 63 5 rfl (AJ Y) ?_
    (refine EF (D':=127) 6 (Bg (n:=1) Y Y ?_ ?_) ?_;(focus (first|omega|(simp;omega)));(focus (first|omega|(simp;omega))))
    refine Zi 255 7 rfl (BA underlying210 sizeOf3 Y Y (by first|omega|(simp;omega))) ?_;refine Zj 511 8 rfl isAgg3 Y (hv:=by exact hz2) ?_;refine Zi 1023 9 rfl (Cz (m:=2) Y Y (by first|omega|(simp;omega))) ?_;refine Yw 10 2047 rfl (Ae (vs:=[_]) (cs:=[_]) underlying210 sizeOf3 zeroValue3 Y rfl rfl rfl rfl rfl) ?_;rintro _ _ ⟨b7,rfl,rfl⟩;refine Yw 11 4095 rfl (DF (by_:=8) (sz:=1) (news:=[_]) underlying210 (rfl:Tryz.prog.info? 3=some Tryz.t3) rfl rfl rfl rfl Y (O0 hrz2 ((ps1++[p9]).length+1 -2) (by omega)) Y Wo Wh (by rfl) rfl (by simp [Value.oneCell']) (by decide) (by omega) (by omega)) ?_;rintro _ _ ⟨sz3,hrz3,rfl⟩;obtain ⟨gz3,cz3,rfl⟩:=hrz3.form;refine Zi 8191 12 rfl (Ay Y)<|Am ?_;refine Zn [3,4,7,11,12,13] ?_;refine A8<|Zx<|Zg<|Zm Y<|Yb (n:=1) Y Y<|Za Y<|Z0<|Zn [3,4,7,11,12,13] ?_;refine Ab (e':=[(3,_),(4,_),(7,_)]) (by exact ⟨ps1,p9++q,_,_,_,_,rfl,⟨hst.1,BO hrw3 (by omega) (by rw [VA,uK,vM];unfold rtV;rw [hst.2];rfl),BO hrz3 (by omega) (by rw [VA,uK,vM];unfold lnV;rw [tK,he,←Nat.two_mul]),by omega⟩,(by rw [show(ps1++[p9]).length+1 -1=ps1.length+1 by omega]),rfl⟩)
   have hD:=hM.done (fun a b e9=>by have e8:=List.singleton_inj.1 (yK e9 rfl).2;rw [←e8];exact he);refine Ar<|Zt<|Zt<|AO<|A8<|Zx<|Zg<|Ya (n:=1) Y Y<|Zm Y<|Z0<|Zn [3,4,13,11,12] ?_;refine Ab (e':=[(3,_),(4,_),(13,_)]) (by exact ⟨i+1,_,_,_,_,_,rfl,⟨by omega,hD.1,hD.2,BO hrw2 (by simp) rfl,BO hrz2 (by simp) rfl,by rw [tK];simp;omega⟩,rfl,rfl⟩)
  first|rw [decide_eq_false hn9]|rw [hn9]|skip
  have hD:=hM.done (fun a b e9=>by have e8:=congrArg List.length e9;rw [tK]at e8;simp at e8;omega);refine Yk 15 3 rfl<|Yk 31 4 rfl<|Yk 63 5 rfl<|Yk 127 6 rfl<|Yk 255 7 rfl<|Yk 511 8 rfl<|Yk 1023 9 rfl<|Yk 2047 10 rfl<|Yk 4095 11 rfl<|Yk 8191 12 rfl<|Yk 16383 13 rfl<|Zi 32767 14 rfl (AA Y Y)<|Am ?_;refine Zn [3,4,7,11,12,13,41] ?_;refine Zx<|Di Y<|Ar<|Zt<|Zt<|AO<|A8<|Zx<|Zg<|Ya (n:=1) Y Y<|Zm Y<|Z0<|Zn [3,4,13,11,12] ?_;refine Ab (e':=[(3,_),(4,_),(13,_)]) (by exact ⟨i+1,_,_,_,_,_,rfl,⟨by omega,hD.1,hD.2,BO hrw2 (by simp) rfl,BO hrz2 (by simp) rfl,by rw [tK];simp;omega⟩,rfl,rfl⟩)
 have ei:i=ls.length:=by omega
 subst ei;rw [uN (tQ _)]at hf;obtain ⟨qw,cw,rfl⟩:=hrw.form;refine Ar<|Zt<|Zt<|AO<|Zx<|Zq<|Zq<|Zg<|Zm Y<|Zv (AV underlying47 Y)<|Zv (C8 (n:=0) Y Y)<|Z0<|Zx ?_;refine Ao Y (fun h0=>?_) (fun h0=>?_)
 ·
  have e0:=uf h0;subst e0;have e1:ls=[]:=hf.symm
  refine Zq<|Zg<|Xr [_] Y call195 Y rfl (ZG [] (by simp) Tg zg) ?_;refine Za Y<|Z0<|Zx<|A9<|Zt ?_;refine Qg rfl (VV results100 Y) (by exact ⟨by rw [e1,VR],rfl⟩)
 obtain ⟨ps1,q,rfl⟩:=aA (ps:=ps) (by omega);obtain ⟨gw2,cw2,curw2,zw2,hev,rfl,hlw2,hgw2⟩:=Ke (id hrw) (by omega);injection hev with hev1 hev2 hev3
 subst hev1 hev3;have hw1:=hgw2 _ _ (mo rtV ps1 q)
 have hql:(ps1++[q]).length=ps1.length+1:=by simp
 refine AC<|Zx<|Zq<|Zg<|Zm Y<|Zm Y<|Zv (AV underlying47 Y)<|Yb (n:=1) Y Y ?_;refine BM (BA underlying47 sizeOf9 Y Y (by omega)) ?_;refine Zl isAgg9 Y (hv:=by exact hw1) ?_;refine Ze (Al zeroValue9 #[_]) ?_;rintro _ _ ⟨ob,rfl,rfl⟩;refine Xe (Zs sizeOf9 Y Y rfl (hc:=by exact (rfl:_=(#[Dx (Cq q)]:Array Value)))) ?_;refine Z0<|Zx<|Zq<|Zq<|Zg<|Zm Y<|Zm Y<|Zv (AV underlying47 Y)<|Yb (n:=1) Y Y ?_;refine BM (Bc underlying47 sizeOf9 Y Y (by first|omega|(simp;omega))) ?_;refine Zc [_] Y call196 Y rfl (Ru _ _ _) ?_;rintro _ _ ⟨_,⟨bb,rfl,rfl⟩,rfl⟩;refine Z0<|Zn [8,89] ?_;refine Zx<|AQ<|Zb [8,89] ?_;refine Ng (H0:=_) (R:=_) (I:=(fun pre H=>H=[[(ob,.cells #[Dx (pre.foldl (fun o (x:Nat×Bs)=>GA x.2 o) (Cq q))] 9 (0,0))],[(gw2,.cells curw2 9 zw2)],[(1,.cells (Cs.map Bj).toArray Tg zg)]])) (asg:=fun x=>[(10,Dx x.2),(91,Dx x.2),(90,I4 ((x.1:Nat):Int))]) rfl Y call247 (Rv (ls:=ps1.map Cq) (v:=I6 gw2 ((ps1++[q]).length -1) cw) (Fy (BO (O0 hrw ((ps1++[q]).length -1) (by omega)) (by simp) (by rw [dP,AA1];rfl)) (by rw [tJ];omega)) bb (by rw [tJ];omega)) (fun pre H1 c d h=>by subst h;intro x hx;simp at hx;simp [hx]) Y rfl Wp (rfl) ?ha_13 ?hbd_13 ?hk_13
 case ha_13=>
  intro _ x _ _;refine Zg<|Za Y<|Z0 ?_;exact jC
 case hbd_13=>
  intro l pre x post u H1 R1 hxs hI;subst hI;refine AQ<|Zg<|Zm Y<|Zl isAgg9 Y ?_;refine Xr [_,_] Y call194 Y rfl (Lc x.2 _ (by obtain ⟨y9,_,e9⟩:=uh.1 (aP (OP hxs));rw [←e9,Ei];omega) (by rw [jq _ _ (Ei q)];omega) Tg zg) ?_;refine Xe (Zs sizeOf9 Y Y rfl) ?_;refine Z0<|A8 ?_;refine Ji rfl (by rw [wJ])
 intro D1 H2 hI2;subst hI2;refine Zn [8] ?_;refine A8<|Zx<|Zq<|Zg<|Zl isAgg9 Y ?_;refine Za Y<|Z0<|Zx<|A9 ?_;refine Jj rfl (VV results100 Y) Wo (by exact ⟨by rw [jr,jo,hB.root,←hf];simp,rfl⟩)
theorem RD:∀(f x:Nat),0<x→x<2^f→Lib.bitLenAux f x=Nat.log2 x+1
 |0,x,h0,h1=>by simp at h1;omega
 |f+1,x,h0,h1=>by
  unfold Lib.bitLenAux;rw [if_neg (by omega)];rw [yB]at h1;rcases uJ x 2 with h|h
  · have e:x=1:=by omega
    subst e;cases f<;>rfl
  · rw [RD f (x/2) (by omega) (by omega)]
    conv=>rhs;rw [Nat.log2_def,if_pos h]
    omega
theorem dN(n:Nat)(h1:2≤n)(h2:n≤1000000000000):Lib.bitLen (n -1)=Nat.log2 (n -1)+1:=RD 64 (n -1) (by omega) (by omega)
def Dy(l:List Bs)(i:Nat):List Bs:=
 if h:2≤l.length then
  if i<Bq l.length then Dy (l.take (Bq l.length)) i++[Cq (l.drop (Bq l.length))]
  else Dy (l.drop (Bq l.length)) (i -Bq l.length)++[Cq (l.take (Bq l.length))]
 else []
termination_by l.length
decreasing_by
 · have:=IY h;rw [tL];omega
 · have:=Hu l.length;rw [tN];omega
theorem LZ{l:List Bs}(h:l.length≤1)(i:Nat):Dy l i=[]:=by rw [Dy,dif_neg (by omega)]
theorem JF{l:List Bs}{i:Nat}(h:2≤l.length)(hi:i<Bq l.length):Dy l i=Dy (l.take (Bq l.length)) i++[Cq (l.drop (Bq l.length))]:=by rw [Dy,dif_pos h,if_pos hi]
theorem IW{l:List Bs}{i:Nat}(h:2≤l.length)(hi:¬i<Bq l.length):Dy l i=Dy (l.drop (Bq l.length)) (i -Bq l.length)++[Cq (l.take (Bq l.length))]:=by rw [Dy,dif_pos h,if_neg hi]
theorem JV:∀(n:Nat) (l:List Bs) (i:Nat),l.length≤n→∀x∈Dy l i,x.length=32
 |n,l,i,hn,x,hx=>by
  rcases uJ l.length 2 with h|h
  · rw [LZ (by omega)]at hx;simp at hx
  · have h1:=IY h
    have h2:=Hu l.length
    match n,hn with
    |0,hn=>omega
    |n+1,hn=>
    by_cases hi:i<Bq l.length
    · rw [JF h hi]at hx
      rcases uF.1 hx with hx|hx
      · exact JV n _ i (by rw [tL];omega) x hx
      · rw [tq]at hx
        rw [hx];exact Ei _
    · rw [IW h hi]at hx
      rcases uF.1 hx with hx|hx
      · exact JV n _ _ (by rw [tN];omega) x hx
      · rw [tq]at hx
        rw [hx];exact Ei _
theorem Dn.take{M:List AR}{p:Option Addr}{cap:Nat}{ls:List Bs}(h:Dn M (.slice p ls.length cap) ls)(n:Nat)(hn:n≤ls.length):Dn M (.slice p n cap) (ls.take n):=by
 obtain ⟨p',cap',e,hl,hg⟩:=h;injection e with e1 e2 e3
 subst e1 e3;have hlen:(ls.take n).length=n:=by rw [tL];omega
 refine ⟨p,cap,by rw [hlen],by rw [hlen];omega,fun i z hz=>hg i z ?_⟩;rw [uX]at hz;split at hz
 · exact hz
 · cases hz
theorem Dn.drop{M:List AR}{g0 off0 cap:Nat}{ls:List Bs}(h:Dn M (.slice (some ⟨g0,off0,none⟩) ls.length cap) ls)(n:Nat)(hn:n<ls.length):Dn M (.slice (some ⟨g0,off0+n,none⟩) (ls.length -n) (cap -n)) (ls.drop n):=by
 obtain ⟨p',cap',e,hl,hg⟩:=h;injection e with e1 e2 e3
 subst e1 e3;refine ⟨_,_,by rw [tN],by rw [tN];omega,fun i z hz=>?_⟩;rw [uw]at hz;obtain ⟨g2,off2,cur2,T2,zz2,e2,hm2,hc2⟩:=hg (n+i) z hz;injection e2 with e2;injection e2 with e3 e4
 subst e3 e4;exact ⟨g0,off0+n,cur2,T2,zz2,rfl,hm2,by rw [yP];exact hc2⟩
theorem dn{w:World}{g:Nat}{cur:Array Value}{e:TypeId}{z:Nat×Nat}(enc:Bs→Value){zs:List Bs}(hb:w.heap[g]?=some (.cells cur e z))(hle:zs.length≤cur.size)(hfr:KY z cur.size)(ht:cur.toList.take zs.length=zs.map enc):Go.Sort.Holds enc w g 0 zs.toArray:=by
 intro j hj;have hj':j<zs.length:=by simpa using hj
 have hf:=hfr j (by omega);have h1:(cur.toList.take zs.length)[j]?=(zs.map enc)[j]?:=by rw [ht]
 rw [zY hj']at h1;refine ⟨?_,?_⟩
 · simp only [World.cell?,hb,uL]
   simp only [Option.isSome_none,vH,if_false];rw [←uO,h1];simp [hj']
 · simp only [World.frozen?,hb,uL]
   simp;omega
theorem UJ(enc:Bs→Value)(cur:Array Value)(ts:List Bs)(h:ts.length≤cur.size):(Go.Sort.putCells enc 0 ts.toArray cur).toList.take ts.length=ts.map enc:=by
 apply vg;intro j;rw [uX];by_cases hj:j<ts.length
 · rw [if_pos hj,uO]
   unfold Go.Sort.putCells;rw [Array.getElem?_mapIdx,tu (by omega)];simp [hj]
 · rw [if_neg hj,uq (by simp;omega)]
theorem Sat.sorted_enc{u w:World}{g n:Nat}{cur:Array Value}{e:TypeId}{z:Nat×Nat}{R:Hp}(enc:Bs→Value)(d:Array Bs)(h:Sat u ([(g,.cells cur e z)]::R) w):Sat u ([(g,.cells (Go.Sort.putCells enc 0 d cur) e z)]::R) (Go.Sort.putRow enc (Go.Sort.ahead w n) g 0 d):=by
 have hb:=h.get (g,.cells cur e z) (by simp);refine h.upd (.here _) rfl rfl rfl ?_ fun k hk=>?_
 · simp [Go.Sort.putRow,Go.Sort.mapBlock,Go.Sort.ahead,vU,hb,Go.Sort.onCells]
 · have:g≠k:=fun e=>hk e.symm
   simp [Go.Sort.putRow,Go.Sort.mapBlock,Go.Sort.ahead,vU,this]
theorem U9{v:Value}{ls:List Bs}{s:List AR}(h:BX 1 9 v ls.length (ls.map Dx) s)(hn:ls.length≤1000000000000):CO Tryz.prog 208 #[v] [s] (fun r H'=>r= .tuple #[]∧∃s',BX 1 9 v ls.length (ls.reverse.map Dx) s'∧H'=[s']):=by
 obtain ⟨hlen,⟨rfl,h0,rfl⟩|⟨g,cap,cur,z,rfl,rfl,hle,hcm,hcs,htk,hfr⟩⟩:=h
 · intro u R w hs
   have e:ls=[]:=uf h0;subst e;exact (Tryz.slices_Reverse_string_empty none 0 w).mono (by
    rintro e w' ⟨rfl,rfl⟩;exact .inl ⟨_,_,rfl,⟨rfl,[],BV 1 _,rfl⟩,hs⟩)
 · intro u R w hs
   rw [wP]at hcs htk;have hb:=hs.get (g,.cells cur 9 z) (by simp)
   have hH:=dn (w:=w) (g:=g) (e:=9) (z:=z) Dx (zs:=ls) hb (by omega) hfr htk;refine (Tryz.slices_Reverse_string g 0 cap ls w hH (by omega)).mono ?_;rintro e w' ⟨rfl,n,rfl⟩;refine .inl ⟨_,_,rfl,⟨rfl,_,⟨by simp,.inr ⟨g,cap,_,z,rfl,rfl,hle,hcm,?_,?_,?_⟩⟩,rfl⟩,Sat.sorted_enc (n:=n) Dx ls.reverse.toArray hs⟩
   · rw [wP];simp [Go.Sort.putCells,hcs]
   · rw [wP]
     have:=UJ Dx cur ls.reverse (by rw [xS];omega);rw [xS]at this;exact this
   · simpa [Go.Sort.putCells]using hfr
theorem TR(n:Nat)(h1:2≤n)(h2:n≤1000000000000):Av Tryz.prog 202 #[I4 (n:Int)] [] (I4 ((Bq n:Nat):Int)):=by
 have hb:=dN n h1 h2;have hl:=IY h1
 unfold Bq at hl;have hl2:(n -1).log2<64:=(Nat.log2_lt (by omega)).2 (by omega)
 refine Se func202 ntmps202 [0] ?_;intro u R;refine Zq<|Zg<|Za Y<|Z0<|Zx<|Zq<|Zg<|Zm Y ?_
 (refine BM (Bg (n:=1) Y Y ?_ ?_) ?_;(focus (first|omega|(rw [vk];omega)));(focus (first|omega|(rw [vk];omega))))
 refine BM (Iu underlying3 underlying231 Y (by first|omega|(rw [vk];omega))) ?_;refine Xr [_] Y call253 Y rfl (Pk (H:=[]) (Rl:=fun v=>v=I4 ((Lib.bitLen (n -1):Nat):Int)) (fun w _=>(Tryz.bits_Len ((n -1:Nat):Int) w (by omega) (by omega)).mono (by rintro e w1 ⟨rfl,rfl⟩;exact ⟨_,rfl,by rw [vZ],Below.refl _ _⟩)) (fun v h=>⟨h,rfl⟩)) ?_;rw [hb]
 (refine BM (Bg (n:=1) Y Y ?_ ?_) ?_;(focus (first|omega|(rw [vk];omega)));(focus (first|omega|(rw [vk];omega))))
 (refine BM (Rb (m:=1) Y Y ?_ ?_) ?_;(focus (omega));(focus (first|omega|(rw [vk];omega))))
 refine Za Y<|Z0<|Zx<|A9 ?_;refine AB rfl results202 Y (by exact ⟨by rw [vk,AA7];rfl,rfl⟩)
theorem QI{M:List AR}{v:Value}{ls:List Bs}(hv:Dn M v ls)(hn:ls.length≤1000000)(hs:∀s∈ls,s.length≤140737488354000)(i:Nat)(hi:i<ls.length)(Tg:TypeId)(zg:Nat×Nat):
 CO Tryz.prog 121 #[v,I4 (i:Int)] [[(1,.cells (Cs.map Bj).toArray Tg zg)],M] (fun r H'=>∃vp sp,r= .tuple #[vp,I4 0]∧BX 1 9 vp (Dy ls i).length ((Dy ls i).map Dx) sp∧H'=[sp,[(1,.cells (Cs.map Bj).toArray Tg zg)],M]):=by
 have hml:=mL;obtain ⟨p,cap,rfl,hl,hg⟩:=id hv;refine Se func121 ntmps121 [0,1] ?_;intro u R;refine Zq<|Zg<|Za Y<|Za Y<|Z0<|Zx<|X9 ?_;refine Zq<|Zq<|Zg<|Zm Y<|Zv (Aq (n:=0) Y Y)<|Zm Y ?_;refine Aj (t:=12) Y rfl (fun h1=>?_) (fun h1=>?_)
 ·
  exfalso;omega
 refine Zf Y Y<|Zf Y Y<|Yg (AV underlying47 Y)<|Yg (FR Y Y)<|Zv (AA Y Y)<|Z0<|Zx ?_;refine Ao Y (fun h2=>?_) (fun h2=>?_)
 ·
  exfalso;omega
 refine AC<|Zx<|Zq<|Zg<|Za Y<|Z0<|Zx<|Zq<|XA<|Zx<|Zq<|AQ<|Bd ?_;refine Zb [0,1,6] ?_;refine Az (e0:=[(0,_),(1,_),(6,_)]) (fun m e H=>∃(l2:List Bs) (i2:Nat) (p2:Option Addr) (cap2:Nat) (o:List Bs) (vo:Value) (so:List AR),m=0+l2.length∧(Dn M (.slice p2 l2.length cap2) l2∧i2<l2.length∧(∀s∈l2,s.length≤140737488354000)∧Dy ls i=Dy l2 i2++o.reverse∧BX 1 9 vo o.length (o.map Dx) so∧o.length+l2.length≤ls.length)∧e=[(0,.slice p2 l2.length cap2),(1,I4 (i2:Int)),(6,vo)]∧H=[so]) (by exact ⟨ls,i,p,cap,[],.slice none 0 0,[],rfl,⟨hv,hi,hs,by simp,BV 1 _,by simp⟩,rfl,rfl⟩) Wp ?_;rintro _ _ _ ⟨l2,i2,p2,cap2,o,vo,so,rfl,⟨hv2,hi2,hs2,hpr,hro,hol⟩,rfl,rfl⟩;obtain ⟨qo,co,rfl⟩:=hro.form;refine AQ<|Zq<|Zq<|Zg<|Zm Y<|Zv (AV underlying47 Y)<|Zv (C8 (n:=1) Y Y)<|Z0<|Zx ?_;refine Ao Y (fun h1=>?_) (fun h1=>?_)
 ·
  rw [LZ (l:=l2) (by omega),vN]at hpr;refine Ar<|Zt<|Ap rfl<|Zt<|AO<|Zx<|Zq<|Zg<|Zm Y<|Zc [_] Y call208 Y rfl (U9 hro (by omega)) ?_;rintro _ _ ⟨_,⟨rfl,so2,hro2,rfl⟩,rfl⟩;refine Z0<|Zx<|Zq<|Zg<|Zm Y<|Za Y<|Za Y<|Z0<|Zx<|A9<|K9 ?_;refine Da rfl results121 Y Y (by exact ⟨_,so2,rfl,BO hro2 (by rw [hpr,xS]) (by rw [hpr]),rfl⟩)
 have h9:2≤l2.length:=by omega
 have hk1:=IY h9;have hk2:=Hu l2.length
 have hlt2:(l2.take (Bq l2.length)).length=Bq l2.length:=by rw [tL];omega
 obtain ⟨p8,cap8,e8,hl8,hg8⟩:=id hv2;injection e8 with e81 e82 e83
 subst e81 e83;obtain ⟨g8,off8,cur8,T8,zz8,rfl,hm8,hc8⟩:=hg8 0 _ (tF (by omega));have hvt:=hv2.take (Bq l2.length) (by omega)
 have hvd:=hv2.drop (Bq l2.length) hk1;refine AC<|Zx<|Zq<|Zg<|Zm Y<|Zv (AV underlying47 Y)<|Xr [_] Y call202 Y rfl (TR l2.length h9 (by omega)) ?_;refine Za Y<|Z0<|Zx<|Zq<|BI (n:=8) (0::0::3::0::0::24::7::127::[]) 0 (by kernel_rfl) (by kernel_rfl) rfl ?_;refine Zi 1 0 rfl (AJ Y)<|Zi 3 1 rfl (AJ Y) ?_;refine Zi 7 2 rfl (Bc underlying47 sizeOf9 Y Y (by first|omega|(simp;omega))) ?_;refine Zi 15 3 rfl (AJ Y)<|Zi 31 4 rfl (AJ Y) ?_
 (refine EF (D':=63) 5 (IK underlying47 sizeOf9 Y Y ?_ ?_) ?_;(focus (first|omega|(simp;omega)));(focus (first|omega|(simp;omega))))
 refine Zi 127 6 rfl (Ay Y)<|Zi 255 7 rfl (Ay Y)<|Am ?_;refine Zn [1,6,7,8,9] ?_;refine Zx<|Zq<|Zq<|Zg<|Zm Y<|Zm Y<|Zv (FR Y Y)<|Z0<|Zx ?_;refine Ao Y (fun hge=>?_) (fun hge=>?_)
 ·
  have hge:¬i2<Bq l2.length:=by omega
  refine Zg<|Zm Y<|Zm Y<|Zm Y<|Zm Y<|Yb Y Y<|Za Y<|Za Y<|Za Y<|Z0<|Zx<|Zq<|Zg<|Zm Y<|Zm Y<|Xr [_] Y call100 Y rfl (Jc hvt (by rw [hlt2];omega) (fun s h=>hs2 s (vD h)) Tg zg) ?_;refine Ze (Ae (vs:=[_]) (cs:=[_]) underlying47 sizeOf9 zeroValue9 Y rfl rfl rfl rfl rfl) ?_;rintro _ _ ⟨b1,rfl,rfl⟩;refine Ze (DF (by_:=16) (sz:=1) (news:=[_]) underlying47 (rfl:Tryz.prog.info? 9=some Tryz.t9) rfl rfl rfl rfl Y hro Y Wo Wh (by rfl) rfl (by simp [Value.oneCell']) (by decide) (by omega) (by omega)) ?_;rintro _ _ ⟨sw,hrw,rfl⟩;obtain ⟨gw,cw,rfl⟩:=hrw.form;refine Za Y<|Z0<|Zn [1,6,8] ?_;refine Zx<|Zg<|Zm Y<|Za Y<|Z0<|A8<|Zn [0,1,6] ?_;refine Ab (e':=[(0,_),(1,_),(6,_)]) (by exact ⟨l2.drop (Bq l2.length),i2 -Bq l2.length,_,_,o++[Cq (l2.take (Bq l2.length))],_,_,(by rw [tN]),⟨(by rw [tN];exact hvd),by rw [tN];omega,fun s h=>hs2 s (vC h),by rw [hpr,IW h9 hge,wX,tO];rfl,BO hrw (by simp) (by simp;rfl),by rw [tK,tN];simp;omega⟩,(by rw [tN]),rfl⟩)
 refine AC<|Zx<|Zq<|Zg<|Zm Y<|Zm Y<|Xr [_] Y call100 Y rfl (Jc hvd (by rw [tN];omega) (fun s h=>hs2 s (vC h)) Tg zg) ?_;refine Ze (Ae (vs:=[_]) (cs:=[_]) underlying47 sizeOf9 zeroValue9 Y rfl rfl rfl rfl rfl) ?_;rintro _ _ ⟨b3,rfl,rfl⟩;refine Ze (DF (by_:=16) (sz:=1) (news:=[_]) underlying47 (rfl:Tryz.prog.info? 9=some Tryz.t9) rfl rfl rfl rfl Y hro Y Wo Wh (by rfl) rfl (by simp [Value.oneCell']) (by decide) (by omega) (by omega)) ?_;rintro _ _ ⟨sw,hrw,rfl⟩;obtain ⟨gw,cw,rfl⟩:=hrw.form;refine Za Y<|Z0<|Zx<|Zg<|Zm Y<|Za Y<|Z0<|A8<|Zn [0,1,6] ?_;refine Ab (e':=[(0,_),(1,_),(6,_)]) (by exact ⟨l2.take (Bq l2.length),i2,_,_,o++[Cq (l2.drop (Bq l2.length))],_,_,(by rw [hlt2]),⟨(by rw [hlt2];exact hvt),by rw [hlt2];omega,fun s h=>hs2 s (vD h),by rw [hpr,JF h9 (by omega),wX,tO];rfl,BO hrw (by simp) (by simp;rfl),by rw [tK,hlt2];simp;omega⟩,(by rw [hlt2]),rfl⟩)
end Go.Proofs.YtkdgffcfmgmemaaGreatDoor
