/- Records encoded, in plain words; slices.Clone of changes. -/
/- The program: row.EncodeRecord; logtree New, Next, own, Append. -/
/- Heads, changes, records, proofs compared. -/
import Derived.Test.YtkdgffcfmgmemaaGreatDoorEz
import Derived.Test.YtkdgffcfmgmemaaGreatDoorLg11
import Derived.Test.YtkdgffcfmgmemaaGreatDoorEx25
import Derived.Test.YtkdgffcfmgmemaaGreatDoorPy1
import Derived.Test.YtkdgffcfmgmemaaGreatDoorEx30
set_option linter.unusedVariables false
set_option linter.unusedSimpArgs false
namespace Go.Proofs.YtkdgffcfmgmemaaGreatDoor
open Go.Proofs.Tryz
open Go Go.RowKit Gw
set_option maxRecDepth 100000
attribute [local irreducible] Gw.At Gw.Nx Gw.Ops
def Ct:List UInt8:=List.replicate 32 0
def fl1(c:Chg):Int:=if c.had then 1 else 0
def vs1(c:Chg):List Int:=if c.had then [c.o.a,c.o.b,c.o.c]else []
def fl2(c:Chg):Int:=if c.has then fl1 c+2 else fl1 c
def vs2(c:Chg):List Int:=if c.has then vs1 c++[c.n.a,c.n.b,c.n.c]else vs1 c
def Mc(c:Chg):List UInt8:=CU [c.t,c.k,fl2 c]++CU (vs2 c)
def KN(p:Int)(cs:List Chg):List UInt8:=CU [p,(cs.length:Int)]++cs.flatMap Mc
def iV(n:Int):Value:=I4 n
theorem Jn(xs:List Int):Gt (xs.map iV).toArray 0 xs:=fun i n h=>by
 rw [uL,xX,uD,h];rfl
theorem jZ{cur:Array Value}{xs:List Int}(h:cur.toList.take xs.length=xs.map iV):Gt cur 0 xs:=fun i n hi=>by
 have hlt:=(tH.1 hi).1;rw [uL,←uO];have h1:(cur.toList.take xs.length)[i]?=(xs.map iV)[i]?:=by rw [h]
 rw [uX,if_pos hlt,uD,hi]at h1;exact h1
theorem jy{c:Chg}(h:c.had=true):fl1 c=1:=if_pos h
theorem kC{c:Chg}(h:c.had=false):fl1 c=0:=if_neg (by rw [h];decide)
theorem SC{c:Chg}(h:c.had=true):vs1 c=[c.o.a,c.o.b,c.o.c]:=if_pos h
theorem fZ{c:Chg}(h:c.had=false):vs1 c=[]:=if_neg (by rw [h];decide)
theorem jv{c:Chg}(h:c.has=true):fl2 c=fl1 c+2:=if_pos h
theorem jw{c:Chg}(h:c.has=false):fl2 c=fl1 c:=if_neg (by rw [h];decide)
theorem SB{c:Chg}(h:c.has=true):vs2 c=vs1 c++[c.n.a,c.n.b,c.n.c]:=if_pos h
theorem V6{c:Chg}(h:c.has=false):vs2 c=vs1 c:=if_neg (by rw [h];decide)
theorem YR(c:Chg):0≤fl1 c∧fl1 c≤1:=by unfold fl1;split<;>omega
theorem pW(c:Chg):0≤fl2 c∧fl2 c≤3:=by have:=YR c;unfold fl2;split<;>omega
theorem Na{c:Chg}(h:c.ok):(∀n∈[c.t,c.k,fl2 c],-4611686018427387903≤n∧n≤4611686018427387903)∧(∀n∈vs2 c,-4611686018427387903≤n∧n≤4611686018427387903)∧0<(vs2 c).length∧(vs2 c).length≤6:=by
 obtain ⟨h1,h2,_,_⟩:=h;have hf:=pW c
 have ho:c.had=true→(inV c.o.a∧inV c.o.b∧inV c.o.c)∧(0≤c.t∧c.t≤3)∧(1≤c.k∧c.k≤1000000):=fun hh=>by
  have:c.before.ok:=wK (fun hn=>h2 (.inl ⟨hh,hn⟩));rw [LD hh]at this;exact this
 have hn:c.has=true→(inV c.n.a∧inV c.n.b∧inV c.n.c)∧(0≤c.t∧c.t≤3)∧(1≤c.k∧c.k≤1000000):=fun hh=>by
  have:c.after.ok:=wK (fun hn=>h2 (.inr ⟨hh,hn⟩));rw [JQ hh]at this;exact this
 have hk:(0≤c.t∧c.t≤3)∧(1≤c.k∧c.k≤1000000):=by
  cases hh:c.had with
  |true=>exact (ho hh).2
  |false=>
   cases hs:c.has with
   |true=>exact (hn hs).2
   |false=>exact absurd (.inl ⟨by rw [hh];decide,by rw [hs];decide⟩) h1
 have hv1:∀n∈vs1 c,-4611686018427387903≤n∧n≤4611686018427387903:=by
  cases hh:c.had with
  |true=>
   obtain ⟨⟨a1,a2,a3⟩,_⟩:=ho hh;unfold inV at a1 a2 a3;rw [SC hh];intro n hn;simp only [uI,vT,or_false]at hn;rcases hn with rfl|rfl|rfl<;>omega
  |false=>rw [fZ hh];intro n hn;cases hn
 refine ⟨fun n hn=>?_,?_,?_,?_⟩
 · simp only [uI,vT,or_false]at hn
   rcases hn with rfl|rfl|rfl<;>omega
 · cases hs:c.has with
   |true=>
    obtain ⟨⟨a1,a2,a3⟩,_⟩:=hn hs;unfold inV at a1 a2 a3;rw [SB hs];intro n hn;rcases uF.1 hn with hn|hn
    · exact hv1 n hn
    · simp only [uI,vT,or_false]at hn
      rcases hn with rfl|rfl|rfl<;>omega
   |false=>rw [V6 hs];exact hv1
 · cases hs:c.has with
   |true=>rw [SB hs,tK];simp
   |false=>
    rw [V6 hs];cases hh:c.had with
    |true=>rw [SC hh];exact Nat.succ_pos _
    |false=>exact absurd (.inl ⟨by rw [hh];decide,by rw [hs];decide⟩) h1
 · have:(vs1 c).length≤3:=by unfold vs1;split<;>simp
   cases hs:c.has with
   |true=>rw [SB hs,tK];simp;omega
   |false=>rw [V6 hs];omega
theorem lN(c:Chg):(vs1 c).length≤3:=by unfold vs1;split<;>simp
theorem kP{c:Chg}(h:c.ok):(Mc c).length≤81:=by
 obtain ⟨h1,h2,h3,h4⟩:=Na h;have a:=Cv _ h1
 have b:=Cv _ h2;unfold Mc;rw [tK];have:[c.t,c.k,fl2 c].length=3:=rfl
 omega
theorem R4:∀(cs:List Chg),(∀c∈cs,c.ok)→(cs.flatMap Mc).length≤cs.length*81
 |[],_=>tX _
 |c::cs,h=>by
  have a:=R4 cs (fun x hx=>h x (by simp [hx]));have b:=kP (h c (by simp))
  rw [ui,tK,tY];omega
theorem NR{p:Int}{cs:List Chg}(h:ES p cs):∀n∈[p,(cs.length:Int)],-4611686018427387903≤n∧n≤4611686018427387903:=by
 intro n hn;have h1:=h.pos
 have h2:=h.len;simp only [uI,vT,or_false]at hn;rcases hn with rfl|rfl<;>omega
theorem ES.mem{p:Int}{cs:List Chg}(h:ES p cs):∀c∈cs,c.ok:=fun c hc=>by
 obtain ⟨i,hi⟩:=uV hc;exact h.all i c hi
theorem Te{p:Int}{cs:List Chg}(h:ES p cs)(i:Nat):(CU [p,(cs.length:Int)]++(cs.take i).flatMap Mc).length≤666:=by
 have a:=Cv _ (NR h);have b:=R4 (cs.take i) (fun c hc=>h.mem c (vD hc))
 have d:(cs.take i).length≤8:=by rw [tL];have:=h.len;omega
 rw [tK];have:[p,(cs.length:Int)].length=2:=rfl
 omega
theorem R7{p:Int}{cs:List Chg}(h:ES p cs):(KN p cs).length≤18+cs.length*81:=by
 have a:=Cv _ (NR h);have b:=R4 cs h.mem
 unfold KN;rw [tK];have:[p,(cs.length:Int)].length=2:=rfl
 omega
theorem R5(A:List UInt8){cs:List Chg}{i:Nat}{x:Chg}(hx:cs[i]?=some x):A++(cs.take (i+1)).flatMap Mc=(A++(cs.take i).flatMap Mc)++(CU [x.t,x.k,fl2 x]++CU (vs2 x)):=by
 rw [vK,hx];show A++(cs.take i++[x]).flatMap Mc=_
 rw [vX,tO];simp only [ui,z8,uR];rfl
theorem az(p:Int)(q:Option Addr)(cap:Nat)(cs:List Chg)(M:List AR)(hO:Dh M (.slice q cs.length cap) cs)(hok:ES p cs):Av Tryz.prog 222 #[.agg #[I4 p,.slice q cs.length cap]] [M] (.tuple #[.string (str (KN p cs)),I4 0]):=by
 have hml:=mL;obtain ⟨p9,cap9,e9,hol,hg⟩:=id hO;injection e9 with e91 e92 e93
 subst e91 e93;have hnum:=NR hok
 have hlen:=hok.len;refine Se func222 ntmps222 [0] ?_;intro u R;refine Zq<|Zg<|Ze (Bx #[_,_]) ?_;rintro _ _ ⟨b1,rfl,rfl⟩;refine Za Y<|Za Y<|Z0<|Zx<|Zq<|Zq<|Zg<|Zo Wh (Pa #[_,_] isAgg73 sizeOf73 Y) ?_;refine Xr [_] Y call205 Y rfl (Ny p q cap cs M hO) ?_;rw [decide_eq_true hok];refine Zv (Ca Y)<|Z0<|Zx ?_;refine Af Y (fun hv=>?_) (fun hv=>?_)
 ·
  cases hv
 refine AC<|Zx<|Zq<|Zg<|Zh 0 underlying73 rfl rfl sizeOf3 Y<|Zl isAgg3 Y ?_;refine Zh 1 underlying73 rfl rfl sizeOf71 Y<|Zl isAgg71 Y ?_;refine Zv (AV underlying71 Y)<|Ze (Ae (vs:=[_,_]) (cs:=[_,_]) underlying210 sizeOf3 zeroValue3 Y rfl rfl rfl rfl rfl) ?_;rintro _ _ ⟨gb,rfl,rfl⟩;refine Xr [_] Y call199 Y rfl (Pz gb 0 2 _ _ _ [p,(cs.length:Int)] (Jn [p,(cs.length:Int)]) (by simp) hnum) ?_;refine Za Y<|Z0<|Zn [1,4] ?_;refine Zx<|Zq<|Zq<|Zg<|Zh 1 underlying73 rfl rfl sizeOf71 Y<|Zl isAgg71 Y ?_;refine Zv (AV underlying71 Y)<|Zm Y<|Z0<|Zx<|AQ<|Zb [4,22,20,21] ?_;refine Az (e0:=[(4,_),(22,_)]) (fun m e H=>∃(i:Nat),m=cs.length -i∧(i≤cs.length)∧e=[(4,.string (str (CU [p,(cs.length:Int)]++(cs.take i).flatMap Mc))),(22,I4 (i:Int))]∧H=[]) (by exact ⟨0,rfl,tX _,by rw [ut,z8,uR];rfl,rfl⟩) Wp ?_;rintro _ _ _ ⟨i,rfl,hi,rfl,rfl⟩;refine Zq<|Zg<|Zv (Aq Y Y)<|Z0<|Zx<|Zq ?_;refine Ao Y (fun hlt=>?_) (fun hlt=>?_)
 ·
  obtain ⟨x,hx⟩:∃x,cs[i]?=some x:=⟨_,tF hlt⟩;obtain ⟨g,off,cur,T,zz,rfl,hm,hsz,hex⟩:=hg i x hx;obtain ⟨hn1,hn2,hn3,hn4⟩:=Na (hok.all i x hx);have hpl1:=Cv _ hn1
  have hpl2:=Cv _ hn2;have hto:=Te hok i
  have hl3:[x.t,x.k,fl2 x].length=3:=rfl;have hf1:=YR x
  have hf3:=lN x;refine AC<|Zx<|Zq<|AQ<|Zq<|Zg ?_;refine BM (AU underlying71 sizeOf77 Y Y (by first|omega|decide|(simp;done))) ?_;refine Cf (cs:=[(g,.cells cur T zz)]) (by simp [hm]) (AX (cs:=#[I4 x.t,I4 x.k,.bool x.had,I4 x.o.a,I4 x.o.b,I4 x.o.c,.bool x.has,I4 x.n.a,I4 x.n.b,I4 x.n.c]) isAgg77 sizeOf77 Y (by omega) hex) rfl rfl ?_;refine Ze (Al zeroValue77 #[_,_,_,_,_,_,_,_,_,_]) ?_;rintro _ _ ⟨cb,rfl,rfl⟩;refine Xe (Xw sizeOf77 #[I4 x.t,I4 x.k,.bool x.had,I4 x.o.a,I4 x.o.b,I4 x.o.c,.bool x.has,I4 x.n.a,I4 x.n.b,I4 x.n.c]) ?_;refine Z0<|Zx<|Zq<|Bd ?_;refine Zg<|Za Y<|Za Y<|Z0<|Zx<|Zb [7,8,4,6,20,21,22] ?_;refine CW (e0:=[(7,_),(8,_)]) (H0:=[[(cb,.cells #[I4 x.t,I4 x.k,.bool x.had,I4 x.o.a,I4 x.o.b,I4 x.o.c,.bool x.has,I4 x.n.a,I4 x.n.b,I4 x.n.c] 77 (0,0))],[]]) (fun e H=>∃(v:Value) (sv:List AR),(Row 3 v ((vs1 x).map iV) sv)∧e=[(7,I4 (fl1 x)),(8,v)]∧H=[[(cb,.cells #[I4 x.t,I4 x.k,.bool x.had,I4 x.o.a,I4 x.o.b,I4 x.o.c,.bool x.has,I4 x.n.a,I4 x.n.b,I4 x.n.c] 77 (0,0))],sv]) Wp ?hx_2 ?hy_2
  case hx_2=>
   refine Zq<|Zg<|Zh 2 underlying77 rfl rfl sizeOf4 Y<|Zl isAgg4 Y ?_;refine Z0<|Zx ?_;refine Af Y (fun hh1=>?_) (fun hh1=>?_)
   ·
    refine Zg<|Zm Y<|Zh 3 underlying77 rfl rfl sizeOf75 Y<|Zv (F4 underlying75 sizeOf3 Y) ?_;refine Ze (Ml (by_:=8) underlying210 (rfl:Tryz.prog.info? 3=some Tryz.t3) rfl rfl rfl rfl Y (IR 3) Y (ZI (cur:=#[I4 x.t,I4 x.k,.bool x.had,I4 x.o.a,I4 x.o.b,I4 x.o.c,.bool x.has,I4 x.n.a,I4 x.n.b,I4 x.n.c]) (ys:=[iV x.o.a,iV x.o.b,iV x.o.c]) (o:=3) rfl (by decide) rfl) Wo Wo (by simp [iV,Value.oneCell']) (by simp;omega) (by simp)) ?_;rintro _ _ ⟨sa,hra,rfl⟩;obtain ⟨ga,ca,rfl⟩:=hra.form;refine Za Y<|Za Y<|Z0<|Zn [7,8,4,6,20,21,22] ?_;refine BB (e':=[(7,_),(8,_)]) (by exact ⟨_,sa,by rw [SC hh1];exact hra,by rw [jy hh1],rfl⟩)
   refine AC<|Zn [7,8,4,6,20,21,22] ?_;refine BB (e':=[(7,_),(8,_)]) (by exact ⟨.slice none 0 0,[],by rw [fZ hh1];exact IR _,by rw [kC hh1],rfl⟩)
  rintro _ _ ⟨v,sv,hv1,rfl,rfl⟩;refine Zb [7,8,4,6,20,21,22] ?_;refine CW (e0:=[(7,_),(8,_)]) (H0:=[[(cb,.cells #[I4 x.t,I4 x.k,.bool x.had,I4 x.o.a,I4 x.o.b,I4 x.o.c,.bool x.has,I4 x.n.a,I4 x.n.b,I4 x.n.c] 77 (0,0))],sv]) (fun e H=>∃(v:Value) (sv:List AR),(Row 3 v ((vs2 x).map iV) sv)∧e=[(7,I4 (fl2 x)),(8,v)]∧H=[[(cb,.cells #[I4 x.t,I4 x.k,.bool x.had,I4 x.o.a,I4 x.o.b,I4 x.o.c,.bool x.has,I4 x.n.a,I4 x.n.b,I4 x.n.c] 77 (0,0))],sv]) Wp ?hx_5 ?hy_5
  case hx_5=>
   refine Zq<|Zg<|Zh 6 underlying77 rfl rfl sizeOf4 Y<|Zl isAgg4 Y ?_;refine Z0<|Zx ?_;refine Af Y (fun hh2=>?_) (fun hh2=>?_)
   ·
    refine Zg<|Zm Y<|Yi Y Y<|Zm Y<|Zh 7 underlying77 rfl rfl sizeOf75 Y<|Zv (F4 underlying75 sizeOf3 Y) ?_;refine Ze (Ml (by_:=8) underlying210 (rfl:Tryz.prog.info? 3=some Tryz.t3) rfl rfl rfl rfl Y (hv1) Y (ZI (cur:=#[I4 x.t,I4 x.k,.bool x.had,I4 x.o.a,I4 x.o.b,I4 x.o.c,.bool x.has,I4 x.n.a,I4 x.n.b,I4 x.n.c]) (ys:=[iV x.n.a,iV x.n.b,iV x.n.c]) (o:=7) rfl (by decide) rfl) Wo Wo (by simp [iV,Value.oneCell']) (by rw [tJ];simp;omega) (by rw [tJ];simp;omega)) ?_;rintro _ _ ⟨sb,hrb,rfl⟩;obtain ⟨gb,cb,rfl⟩:=hrb.form;refine Za Y<|Za Y<|Z0<|Zn [7,8,4,6,20,21,22] ?_;refine BB (e':=[(7,_),(8,_)]) (by exact ⟨_,sb,by rw [SB hh2,uK];exact hrb,by rw [jv hh2],rfl⟩)
   refine AC<|Zn [7,8,4,6,20,21,22] ?_;refine BB (e':=[(7,_),(8,_)]) (by exact ⟨v,sv,by rw [V6 hh2];exact hv1,by rw [jw hh2],rfl⟩)
  rintro _ _ ⟨v2,sv2,hv2,rfl,rfl⟩;obtain ⟨gv,cv,curv,zv,rfl,rfl,hv2a,hv2b,hv2c,hv2t,hv2f⟩:=hv2.some (by rw [tJ];exact hn3);rw [tJ]at hv2t⊢;refine Zg<|Zm Y<|Zh 0 underlying77 rfl rfl sizeOf3 Y<|Zl isAgg3 Y ?_;refine Zh 1 underlying77 rfl rfl sizeOf3 Y<|Zl isAgg3 Y ?_;refine Zm Y<|Ze (Ae (vs:=[_,_,_]) (cs:=[_,_,_]) underlying210 sizeOf3 zeroValue3 Y rfl rfl rfl rfl rfl) ?_;rintro _ _ ⟨gp,rfl,rfl⟩;refine Xr [_] Y call199 Y rfl (Pz gp 0 3 _ _ _ [x.t,x.k,fl2 x] (Jn [x.t,x.k,fl2 x]) (by simp) hn1) ?_;refine Zm Y<|Xr [_] Y call199 Y rfl (Pz gv 0 cv curv _ zv (vs2 x) (jZ hv2t) (by omega) hn2) ?_;refine BM (Dc Y Y (by rw [Ba,Ba];omega)) ?_;refine BM (Dc Y Y (by rw [E8,Ba,Ba];have h9:(CU [x.t,x.k,fl2 x]++CU (vs2 x)).length=_:=tK;omega)) ?_;refine Za Y<|Z0<|Zn [4,20,21,22] ?_;refine A8<|Zx<|Zg<|Ya (n:=1) Y Y<|Zm Y<|Z0<|Zn [4,22,20,21] ?_;refine Ab (e':=[(4,_),(22,_)]) (by exact ⟨i+1,rfl,by omega,by rw [R5 _ hx,←E8 (CU [p,(cs.length:Int)]++(cs.take i).flatMap Mc),←E8 (CU [x.t,x.k,fl2 x]) (CU (vs2 x))],rfl⟩)
 refine Ar<|Zt<|Zt<|AO<|Zx<|Zq<|Zg<|Zm Y<|Za Y<|Za Y<|Z0<|Zx<|A9 ?_;refine Da rfl results222 Y Y (by exact ⟨by rw [uN (by omega)];rfl,rfl⟩)
theorem Rk(a b:List Cm):Gn (a++b)=Gn a++Gn b:=by unfold Gn;rw [vX]
noncomputable instance(a b:Cm):Decidable (a=b):=Classical.propDecidable _
def Cm.ok(h:Cm):Prop:=(0≤h.p∧h.p≤10000)∧h.ch.length=32∧h.st.length=32
instance(h:Cm):Decidable h.ok:=inferInstanceAs(Decidable (_∧_))
theorem aG{x y:Cm}:x=y↔x.p=y.p∧x.ch=y.ch∧x.st=y.st:=by
 obtain ⟨a,b,c⟩:=x;obtain ⟨d,e,f⟩:=y;simp only [Cm.mk.injEq]
theorem eqH(x y:Cm):EqT Tryz.prog 3 67 (.agg #[I4 x.p,.string (str x.ch),.string (str x.st)]) (.agg #[I4 y.p,.string (str y.ch),.string (str y.st)]) (decide (x=y)):=
 Ma underlying67 (by kernel_rfl) (.cons (by decide) (CY isAgg3 rfl) (CY isAgg3 rfl) (H6 underlying3 _ _)<| .cons (by decide) (CY isAgg9 rfl) (CY isAgg9 rfl) (aN underlying9 _ _)<| .cons (by decide) (CY isAgg9 rfl) (CY isAgg9 rfl) (aN underlying9 _ _)<| .nil) (by
  rw [AA6];simp only [zf,List.all_nil,yQ,uE,id,decide_eq_true_eq,aG];constructor
  · rintro ⟨a,b,c⟩;exact ⟨a,Mr b,Mr c⟩
  · rintro ⟨a,b,c⟩;exact ⟨a,by rw [b],by rw [c]⟩)
theorem pY{x y:Chg}:x=y↔x.t=y.t∧x.k=y.k∧x.had=y.had∧x.o=y.o∧x.has=y.has∧x.n=y.n:=by
 obtain ⟨a,b,c,d,e,f⟩:=x;obtain ⟨a',b',c',d',e',f'⟩:=y;simp only [Chg.mk.injEq]
theorem eqC(x y:Chg):EqT Tryz.prog 3 77 (.agg #[I4 x.t,I4 x.k,.bool x.had,I4 x.o.a,I4 x.o.b,I4 x.o.c,.bool x.has,I4 x.n.a,I4 x.n.b,I4 x.n.c]) (.agg #[I4 y.t,I4 y.k,.bool y.had,I4 y.o.a,I4 y.o.b,I4 y.o.c,.bool y.has,I4 y.n.a,I4 y.n.b,I4 y.n.c]) (decide (x=y)):=
 Ma underlying77 (by kernel_rfl) (.cons (by decide) (CY isAgg3 rfl) (CY isAgg3 rfl) (H6 underlying3 _ _)<| .cons (by decide) (CY isAgg3 rfl) (CY isAgg3 rfl) (H6 underlying3 _ _)<| .cons (by decide) (CY isAgg4 rfl) (CY isAgg4 rfl) (Ws underlying4 _ _)<| .cons (by decide) (NG (cs:=#[I4 x.o.a,I4 x.o.b,I4 x.o.c]) isAgg75 sizeOf75 rfl (by exact (by decide:(6:Nat)≤10))) (NG (cs:=#[I4 y.o.a,I4 y.o.b,I4 y.o.c]) isAgg75 sizeOf75 rfl (by exact (by decide:(6:Nat)≤10))) (Wt underlying75 underlying3 isAgg3 sizeOf3 x.o y.o)<| .cons (by decide) (CY isAgg4 rfl) (CY isAgg4 rfl) (Ws underlying4 _ _)<| .cons (by decide) (NG (cs:=#[I4 x.n.a,I4 x.n.b,I4 x.n.c]) isAgg75 sizeOf75 rfl (by exact (by decide:(10:Nat)≤10))) (NG (cs:=#[I4 y.n.a,I4 y.n.b,I4 y.n.c]) isAgg75 sizeOf75 rfl (by exact (by decide:(10:Nat)≤10))) (Wt underlying75 underlying3 isAgg3 sizeOf3 x.n y.n)<| .nil) (by
  rw [AA6];simp only [zf,List.all_nil,yQ,uE,id,decide_eq_true_eq,pY])
theorem qV{x y:QM}:x=y↔x.kd=y.kd∧x.tb=y.tb∧x.cl=y.cl∧x.lo=y.lo∧x.hi=y.hi∧x.bq=y.bq∧x.ot=y.ot:=by
 obtain ⟨a,b,c,d,e,f,g⟩:=x;obtain ⟨a',b',c',d',e',f',g'⟩:=y;simp only [QM.mk.injEq]
theorem eqQ(x y:QM):EqT Tryz.prog 3 30 (.agg #[I4 x.kd,I4 x.tb,I4 x.cl,I4 x.lo,I4 x.hi,I4 x.bq,I4 x.ot]) (.agg #[I4 y.kd,I4 y.tb,I4 y.cl,I4 y.lo,I4 y.hi,I4 y.bq,I4 y.ot]) (decide (x=y)):=
 Ma underlying30 (by kernel_rfl) (.cons (by decide) (CY isAgg3 rfl) (CY isAgg3 rfl) (H6 underlying3 _ _)<| .cons (by decide) (CY isAgg3 rfl) (CY isAgg3 rfl) (H6 underlying3 _ _)<| .cons (by decide) (CY isAgg3 rfl) (CY isAgg3 rfl) (H6 underlying3 _ _)<| .cons (by decide) (CY isAgg3 rfl) (CY isAgg3 rfl) (H6 underlying3 _ _)<| .cons (by decide) (CY isAgg3 rfl) (CY isAgg3 rfl) (H6 underlying3 _ _)<| .cons (by decide) (CY isAgg3 rfl) (CY isAgg3 rfl) (H6 underlying3 _ _)<| .cons (by decide) (CY isAgg3 rfl) (CY isAgg3 rfl) (H6 underlying3 _ _)<| .nil) (by
  rw [AA6];simp only [zf,List.all_nil,yQ,uE,id,decide_eq_true_eq,qV])
def Br.key(r:Br):Int×List Chg:=(r.p,r.cs)
theorem kM{M:List AR}{va vb:Value}{a b:List Chg}(ha:Dh M va a)(hb:Dh M vb b):Av Tryz.prog 162 #[va,vb] [M] (.bool (decide (a=b))):=by
 have hml:=mL;obtain ⟨pa,ca,rfl,hla,hga⟩:=ha;obtain ⟨pb,cb,rfl,hlb,hgb⟩:=hb;refine Se func162 ntmps162 [0,1] ?_;intro u R;refine Zq<|Zg<|Za Y<|Z0<|Zx<|Zq<|Zq<|Zg<|Zm Y<|Zv (AV underlying71 Y)<|Zm Y<|Zv (AV underlying71 Y)<|Zv (Dw Y Y)<|Z0<|Zx ?_;refine Ao Y (fun hne=>?_) (fun hne=>?_)
 ·
  refine Zq<|Zg<|Za Y<|Z0<|Zx<|A9<|Zt ?_;refine AB rfl results162 Y (by exact ⟨E5 (fun e=>hne (by rw [e])),rfl⟩)
 have hle:a.length=b.length:=by omega
 refine AC<|Zx<|Zq<|Zq<|Zg<|Zm Y<|Zv (AV underlying71 Y)<|Zm Y<|Z0<|Zx<|AQ<|Zb [13,0,1,12] ?_;refine Az (e0:=[(13,_)]) (fun m e H=>∃(i:Nat),m=a.length -i∧(i≤a.length∧∀j,j<i→a[j]?=b[j]?)∧e=[(13,I4 (i:Int))]∧H=[]) (by exact ⟨0,rfl,⟨tX _,by intro j hj;omega⟩,rfl,rfl⟩) Wp ?_;rintro _ _ _ ⟨i,rfl,⟨hi,hall⟩,rfl,rfl⟩;refine Zq<|Zg<|Zv (Aq Y Y)<|Z0<|Zx<|Zq ?_;refine Ao Y (fun hlt=>?_) (fun hlt=>?_)
 ·
  obtain ⟨x,hx⟩:∃x,a[i]?=some x:=⟨_,tF (by omega)⟩;obtain ⟨y,hy⟩:∃y,b[i]?=some y:=⟨_,tF (by omega)⟩;obtain ⟨g1,off1,cur1,T1,zz1,rfl,hm1,hsz1,hex1⟩:=hga i x hx;obtain ⟨g2,off2,cur2,T2,zz2,rfl,hm2,hsz2,hex2⟩:=hgb i y hy;refine AC<|Zx<|Zq<|AQ<|Zq<|Zg<|Zm Y<|Za Y<|Z0<|Zx<|Zq<|BI (n:=9) (0::0::3::7::0::0::48::112::255::[]) 0 (by kernel_rfl) (by kernel_rfl) rfl ?_;refine Zi 1 0 rfl (AJ Y)<|Zi 3 1 rfl (AJ Y) ?_;refine Zi 7 2 rfl (AU underlying71 sizeOf77 Y Y (by omega)) ?_;refine Fp (b:=g1) (x:= .cells cur1 T1 zz1) (D':=15) 3 rfl rfl rfl (by simp [hm1]) (AX (cs:=#[I4 x.t,I4 x.k,.bool x.had,I4 x.o.a,I4 x.o.b,I4 x.o.c,.bool x.has,I4 x.n.a,I4 x.n.b,I4 x.n.c]) isAgg77 sizeOf77 Y (by omega) hex1) ?_;refine Zi 31 4 rfl (AJ Y)<|Zi 63 5 rfl (AJ Y) ?_;refine Zi 127 6 rfl (AU underlying71 sizeOf77 Y Y (by omega)) ?_;refine Fp (b:=g2) (x:= .cells cur2 T2 zz2) (D':=255) 7 rfl rfl rfl (by simp [hm2]) (AX (cs:=#[I4 y.t,I4 y.k,.bool y.had,I4 y.o.a,I4 y.o.b,I4 y.o.c,.bool y.has,I4 y.n.a,I4 y.n.b,I4 y.n.c]) isAgg77 sizeOf77 Y (by omega) hex2) ?_;refine Zi 511 8 rfl (pE (by kernel_rfl) Y Y (eqC x y)) ?_;refine Am ?_;refine Zx ?_;refine Af Y (fun hd=>?_) (fun hd=>?_)
  ·
   have hd:¬x=y:=by simpa using hd
   refine Zq<|Zg<|Za Y<|Z0<|Zn [4] ?_;refine Zx<|A9<|AY<|Zt<|Zt<|AY<|Zt ?_;refine AB rfl results162 Y (by exact ⟨E5 (fun e=>by rw [e,hy]at hx;injection hx with hx;exact hd hx.symm),rfl⟩)
  have heq:x=y:=by simpa using hd
  refine AC<|A8<|Zx<|Zg<|Ya (n:=1) Y Y<|Zm Y<|Z0<|Zn [13,0,1,12] ?_;refine Ab (e':=[(13,_)]) (by exact ⟨i+1,rfl,⟨by omega,fun j hj=>by rcases uJ j i with h9|h9;exact hall j h9;obtain rfl:j=i:=(by omega);rw [hx,hy];exact congrArg some heq⟩,rfl,rfl⟩)
 refine Ar<|Zt<|Zt<|AO<|Zx<|Zq<|Zg<|Za Y<|Z0<|Zx<|A9 ?_;refine AB rfl results162 Y (by exact ⟨Jr (Lf hle (fun j hj=>hall j (by omega))),rfl⟩)
theorem XX{M:List AR}{a b:Br}(ha:Dh M (.slice a.q a.cs.length a.cap) a.cs)(hb:Dh M (.slice b.q b.cs.length b.cap) b.cs):Av Tryz.prog 84 #[.agg #[I4 a.p,.slice a.q a.cs.length a.cap],.agg #[I4 b.p,.slice b.q b.cs.length b.cap]] [M] (.bool (decide (a.key=b.key))):=by
 refine Se func84 ntmps84 [0,1] ?_;intro u R;refine Zq<|Zg<|Ze (Bx #[_,_]) ?_;rintro _ _ ⟨b1,rfl,rfl⟩;refine Ze (Bx #[_,_]) ?_;rintro _ _ ⟨b2,rfl,rfl⟩;refine Za Y<|Z0<|Zx<|Zq<|Zg<|Zh 0 underlying73 rfl rfl sizeOf3 Y<|Zl isAgg3 Y ?_;refine Zh 0 underlying73 rfl rfl sizeOf3 Y<|Zl isAgg3 Y ?_;refine Zv (CF Y Y)<|Zm Y ?_;refine Aj (t:=10) Y rfl (fun h1=>?_) (fun h1=>?_)
 ·
  refine Yf 1 underlying73 rfl rfl sizeOf71 Y<|Yl isAgg71 Y ?_;refine Yf 1 underlying73 rfl rfl sizeOf71 Y<|Yl isAgg71 Y ?_;refine Xr [_,_] Y call162 Y rfl (kM ha hb) ?_;refine Zv (AL Y Y)<|Za Y<|Z0<|Zn [4] ?_;refine Zx<|A9 ?_;refine AB rfl results84 Y (by exact ⟨by exact GU ⟨fun h9=>Prod.ext h1 h9,fun h9=>(Prod.ext_iff.1 h9).2⟩,rfl⟩)
 refine A7 Y rfl<|A7 Y rfl<|A7 Y rfl<|A7 Y rfl<|A7 Y rfl<|Zv (AA Y Y)<|Za Y<|Z0<|Zn [4] ?_;refine Zx<|A9 ?_;refine AB rfl results84 Y (by exact ⟨by exact E5 (fun e=>h1 (Prod.ext_iff.1 e).1),rfl⟩)
theorem YU{M:List AR}{va vb:Value}{a b:List Br}(ha:Du M va a)(hb:Du M vb b):Av Tryz.prog 161 #[va,vb,.func (.func 84) #[] #[]] [M] (.bool (decide (a.map Br.key=b.map Br.key))):=by
 have hml:=mL;obtain ⟨pa,ca,rfl,hla,hga⟩:=ha;obtain ⟨pb,cb,rfl,hlb,hgb⟩:=hb;refine Se func161 ntmps161 [0,1,2] ?_;intro u R;refine Zq<|Zg<|Za Y<|Z0<|Zx<|Zq<|Zq<|Zg<|Zm Y<|Zv (AV underlying28 Y)<|Zm Y<|Zv (AV underlying28 Y)<|Zv (Dw Y Y)<|Z0<|Zx ?_;refine Ao Y (fun hne=>?_) (fun hne=>?_)
 ·
  refine Zq<|Zg<|Za Y<|Z0<|Zx<|A9<|Zt ?_;refine AB rfl results161 Y (by exact ⟨E5 (fun e=>hne (by have:=congrArg List.length e;simpa using this)),rfl⟩)
 have hle:a.length=b.length:=by omega
 refine AC<|Zx<|Zq<|Zq<|Zg<|Zm Y<|Zv (AV underlying28 Y)<|Zm Y<|Z0<|Zx<|AQ<|Zb [17,1,2,15,16] ?_;refine Az (e0:=[(17,_)]) (fun m e H=>∃(i:Nat),m=a.length -i∧(i≤a.length∧∀j,j<i→(a.map Br.key)[j]?=(b.map Br.key)[j]?)∧e=[(17,I4 (i:Int))]∧H=[]) (by exact ⟨0,rfl,⟨tX _,by intro j hj;omega⟩,rfl,rfl⟩) Wp ?_;rintro _ _ _ ⟨i,rfl,⟨hi,hall⟩,rfl,rfl⟩;refine Zq<|Zg<|Zv (Aq Y Y)<|Z0<|Zx<|Zq ?_;refine Ao Y (fun hlt=>?_) (fun hlt=>?_)
 ·
  obtain ⟨x,hx⟩:∃x,a[i]?=some x:=⟨_,tF (by omega)⟩;obtain ⟨y,hy⟩:∃y,b[i]?=some y:=⟨_,tF (by omega)⟩;obtain ⟨hu1,g1,off1,cur1,T1,zz1,rfl,hm1,hsz1,hex1⟩:=hga i x hx;obtain ⟨hu2,g2,off2,cur2,T2,zz2,rfl,hm2,hsz2,hex2⟩:=hgb i y hy;refine AC<|Zx<|Zq<|AQ<|Zq<|Zg<|Zm Y ?_;refine BM (AU underlying28 sizeOf73 Y Y (by omega)) ?_;refine Cf (cs:=[(g1,.cells cur1 T1 zz1)]) (by simp [hm1]) (AX (cs:=#[I4 x.p,.slice x.q x.cs.length x.cap]) isAgg73 sizeOf73 Y (by omega) hex1) rfl rfl ?_;refine Ze (Al zeroValue73 #[_,_]) ?_;rintro _ _ ⟨bx,rfl,rfl⟩;refine Za Y<|Xe (Xw sizeOf73 #[I4 x.p,.slice x.q x.cs.length x.cap]) ?_;refine Z0<|Zx<|Zq<|Zg<|Zm Y<|Zm Y ?_;refine BM (AU underlying28 sizeOf73 Y Y (by omega)) ?_;refine Cf (cs:=[(g2,.cells cur2 T2 zz2)]) (by simp [hm2]) (AX (cs:=#[I4 y.p,.slice y.q y.cs.length y.cap]) isAgg73 sizeOf73 Y (by omega) hex2) rfl rfl ?_;refine Ze (Al zeroValue73 #[_,_]) ?_;rintro _ _ ⟨by9,rfl,rfl⟩;refine Xe (Xw sizeOf73 #[I4 y.p,.slice y.q y.cs.length y.cap]) ?_;refine Z0<|Zn [1,2,8,9,15,16,17] ?_;refine Zx<|Zq<|Zg<|Zm Y<|Zo Wh (Pa #[_,_] isAgg73 sizeOf73 Y) ?_;refine Zo Wh (Pa #[_,_] isAgg73 sizeOf73 Y) ?_;refine Xr [_,_] Y call84 Y rfl (XX hu1 hu2) ?_;refine Zv (CB Y)<|Z0<|Zx ?_;refine Ao Y (fun hd=>?_) (fun hd=>?_)
  ·
   refine Zq<|Zg<|Za Y<|Z0<|Zx<|A9<|AY<|Zt<|Zt<|AY<|Zt ?_;refine AB rfl results161 Y (by exact ⟨E5 (fun e=>by have e9:=congrArg (fun l=>l[i]?) e;simp only [uD,hx,hy,vV]at e9;injection e9 with e9;exact hd e9),rfl⟩)
  have heq:x.key=y.key:=uH.1 hd;refine AC<|A8<|Zx<|Zg<|Ya (n:=1) Y Y<|Zm Y<|Z0<|Zn [17,1,2,15,16] ?_;refine Ab (e':=[(17,_)]) (by exact ⟨i+1,rfl,⟨by omega,fun j hj=>by rcases uJ j i with h9|h9;exact hall j h9;obtain rfl:j=i:=(by omega);rw [uD,uD,hx,hy];exact congrArg some heq⟩,rfl,rfl⟩)
 refine Ar<|Zt<|Zt<|AO<|Zx<|Zq<|Zg<|Za Y<|Z0<|Zx<|A9 ?_;refine AB rfl results161 Y (by exact ⟨Jr (Lf (by simp [hle]) (fun j hj=>hall j (by rw [tJ]at hj;omega))),rfl⟩)
theorem Ry{M:List AR}{va vb:Value}{a b:List Br}(ha:Du M va a)(hb:Du M vb b):Av Tryz.prog 83 #[va,vb,.func (.func 84) #[] #[]] [M] (.bool (decide (a.map Br.key=b.map Br.key))):=by
 refine Se func83 ntmps83 [0,1,2] ?_;intro u R;refine Zq<|Zg<|Za Y<|Z0<|Zx<|Zq<|Zg<|Zm Y<|Zm Y<|Zm Y<|Xr [_,_,_] Y call161 Y rfl (YU ha hb) ?_;refine Za Y<|Z0<|Zx<|A9 ?_;refine AB rfl results83 Y (by exact ⟨rfl,rfl⟩)
set_option maxHeartbeats 1000000 in
theorem eY{M:List AR}{va vb:Value}{a b:List RP}(ha:Gs M va a)(hb:Gs M vb b):Av Tryz.prog 156 #[va,vb,.func (.func 82) #[] #[]] [M] (.bool (decide (a=b))):=by
 have hml:=mL;obtain ⟨pa,ca,rfl,hla,hlca⟩:=ha.form;obtain ⟨pb,cb,rfl,hlb,hlcb⟩:=hb.form;refine Se func156 ntmps156 [0,1,2] ?_;intro u R;refine Zq<|Zg<|Za Y<|Z0<|Zx<|Zq<|Zq<|Zg<|Zm Y<|Zv (AV underlying40 Y)<|Zm Y<|Zv (AV underlying40 Y)<|Zv (Dw Y Y)<|Z0<|Zx ?_;refine Ao Y (fun hne=>?_) (fun hne=>?_)
 ·
  refine Zq<|Zg<|Za Y<|Z0<|Zx<|A9<|Zt ?_;refine AB rfl results156 Y (by exact ⟨E5 (fun e=>hne (by rw [e])),rfl⟩)
 have hle:a.length=b.length:=by omega
 refine AC<|Zx<|Zq<|Zq<|Zg<|Zm Y<|Zv (AV underlying40 Y)<|Zm Y<|Z0<|Zx<|AQ<|Zb [17,1,2,15,16] ?_;refine Az (e0:=[(17,_)]) (fun m e H=>∃(i:Nat),m=a.length -i∧(i≤a.length∧∀j,j<i→a[j]?=b[j]?)∧e=[(17,I4 (i:Int))]∧H=[]) (by exact ⟨0,rfl,⟨tX _,by intro j hj;omega⟩,rfl,rfl⟩) Wp ?_;rintro _ _ _ ⟨i,rfl,⟨hi,hall⟩,rfl,rfl⟩;refine Zq<|Zg<|Zv (Aq Y Y)<|Z0<|Zx<|Zq ?_;refine Ao Y (fun hlt=>?_) (fun hlt=>?_)
 ·
  obtain ⟨x9,hx⟩:∃x,a[i]?=some x:=⟨_,tF (by omega)⟩;obtain ⟨y9,hy⟩:∃y,b[i]?=some y:=⟨_,tF (by omega)⟩;obtain ⟨x,hx9,hu1,g1,off1,cur1,T1,zz1,rfl,hm1,hsz1,hex1⟩:=ha.at hx;obtain ⟨y,hy9,hu2,g2,off2,cur2,T2,zz2,rfl,hm2,hsz2,hex2⟩:=hb.at hy;subst hx9 hy9;refine AC<|Zx<|Zq<|AQ<|Zq<|Zg<|Zm Y ?_;refine BM (AU underlying40 sizeOf49 Y Y (by omega)) ?_;refine Cf (cs:=[(g1,.cells cur1 T1 zz1)]) (by simp [hm1]) (AX (cs:=#[I4 x.x.tb,I4 x.x.cl,I4 x.x.lo,I4 x.x.hi,I4 x.x.ct,I4 x.x.fi,.slice x.qr x.x.rows.length x.cr,.slice x.qp x.x.paths.length x.cp,.slice x.qt x.x.roots.length x.ct]) isAgg49 sizeOf49 Y (by omega) hex1) rfl rfl ?_;refine Ze (Al zeroValue49 #[_,_,_,_,_,_,_,_,_]) ?_;rintro _ _ ⟨bx,rfl,rfl⟩;refine Za Y<|Xe (Xw sizeOf49 #[I4 x.x.tb,I4 x.x.cl,I4 x.x.lo,I4 x.x.hi,I4 x.x.ct,I4 x.x.fi,.slice x.qr x.x.rows.length x.cr,.slice x.qp x.x.paths.length x.cp,.slice x.qt x.x.roots.length x.ct]) ?_;refine Z0<|Zx<|Zq<|Zg<|Zm Y<|Zm Y ?_;refine BM (AU underlying40 sizeOf49 Y Y (by omega)) ?_;refine Cf (cs:=[(g2,.cells cur2 T2 zz2)]) (by simp [hm2]) (AX (cs:=#[I4 y.x.tb,I4 y.x.cl,I4 y.x.lo,I4 y.x.hi,I4 y.x.ct,I4 y.x.fi,.slice y.qr y.x.rows.length y.cr,.slice y.qp y.x.paths.length y.cp,.slice y.qt y.x.roots.length y.ct]) isAgg49 sizeOf49 Y (by omega) hex2) rfl rfl ?_;refine Ze (Al zeroValue49 #[_,_,_,_,_,_,_,_,_]) ?_;rintro _ _ ⟨by9,rfl,rfl⟩;refine Xe (Xw sizeOf49 #[I4 y.x.tb,I4 y.x.cl,I4 y.x.lo,I4 y.x.hi,I4 y.x.ct,I4 y.x.fi,.slice y.qr y.x.rows.length y.cr,.slice y.qp y.x.paths.length y.cp,.slice y.qt y.x.roots.length y.ct]) ?_;refine Z0<|Zn [1,2,8,9,15,16,17] ?_;refine Zx<|Zq<|Zg<|Zm Y<|Zo Wh (Pa #[_,_,_,_,_,_,_,_,_] isAgg49 sizeOf49 Y) ?_;refine Zo Wh (Pa #[_,_,_,_,_,_,_,_,_] isAgg49 sizeOf49 Y) ?_;refine Xr [_,_] Y call82 Y rfl (av hu1.rp hu2.rp) ?_;refine Zv (CB Y)<|Z0<|Zx ?_;refine Ao Y (fun hd=>?_) (fun hd=>?_)
  ·
   refine Zq<|Zg<|Za Y<|Z0<|Zx<|A9<|AY<|Zt<|Zt<|AY<|Zt ?_;refine AB rfl results156 Y (by exact ⟨E5 (fun e=>by rw [e,hy]at hx;injection hx with hx;exact hd hx.symm),rfl⟩)
  have heq:x.x=y.x:=uH.1 hd;refine AC<|A8<|Zx<|Zg<|Ya (n:=1) Y Y<|Zm Y<|Z0<|Zn [17,1,2,15,16] ?_;refine Ab (e':=[(17,_)]) (by exact ⟨i+1,rfl,⟨by omega,fun j hj=>by rcases uJ j i with h9|h9;exact hall j h9;obtain rfl:j=i:=(by omega);rw [hx,hy];exact congrArg some heq⟩,rfl,rfl⟩)
 refine Ar<|Zt<|Zt<|AO<|Zx<|Zq<|Zg<|Za Y<|Z0<|Zx<|A9 ?_;refine AB rfl results156 Y (by exact ⟨Jr (Lf hle (fun j hj=>hall j (by omega))),rfl⟩)
theorem Ut{M:List AR}{va vb:Value}{a b:List RP}(ha:Gs M va a)(hb:Gs M vb b):Av Tryz.prog 81 #[va,vb,.func (.func 82) #[] #[]] [M] (.bool (decide (a=b))):=by
 refine Se func81 ntmps81 [0,1,2] ?_;intro u R;refine Zq<|Zg<|Za Y<|Z0<|Zx<|Zq<|Zg<|Zm Y<|Zm Y<|Zm Y<|Xr [_,_,_] Y call156 Y rfl (eY ha hb) ?_;refine Za Y<|Z0<|Zx<|A9 ?_;refine AB rfl results81 Y (by exact ⟨rfl,rfl⟩)
end Go.Proofs.YtkdgffcfmgmemaaGreatDoor
