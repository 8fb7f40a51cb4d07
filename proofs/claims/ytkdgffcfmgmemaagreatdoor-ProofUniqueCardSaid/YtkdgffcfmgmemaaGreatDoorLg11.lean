/- Records in plain words: a log that can be applied. -/
/- The reference of layer 4: Log. -/
import Derived.Test.YtkdgffcfmgmemaaGreatDoorEz
import Derived.Test.YtkdgffcfmgmemaaGreatDoorLg9
import Derived.Test.YtkdgffcfmgmemaaGreatDoorEx17
set_option linter.unusedVariables false
set_option linter.unusedSimpArgs false
namespace Go.Proofs.YtkdgffcfmgmemaaGreatDoor
open Go.Proofs.Tryz
open Go Go.RowKit Gw
set_option maxRecDepth 100000
attribute [local irreducible] Gw.At Gw.Nx Gw.Ops
structure Br where
 p:Int
 q:Option Addr
 cap:Nat
 cs:List Chg
def Ej(l:List Br):List Value:=l.flatMap (fun r=>[I4 r.p,.slice r.q r.cs.length r.cap])
def Du(M:List AR)(v:Value)(l:List Br):Prop:=∃p cap,v= .slice p l.length cap∧(l.length≤maxLen∧l.length≤cap)∧∀(i:Nat) (r:Br),l[i]?=some r→Dh M (.slice r.q r.cs.length r.cap) r.cs∧∃g off cur T zz,p=some ⟨g,off,none⟩∧(g,Obj.cells cur T zz)∈M∧off+i*2+2≤cur.size∧cur.extract (off+i*2) (off+i*2+2)=#[I4 r.p,.slice r.q r.cs.length r.cap]
def Bh(l:List Br):List AP:=l.foldl (fun rs r=>DD rs r.cs) []
theorem FI(l:List Br)(r:Br):Bh (l++[r])=DD (Bh l) r.cs:=by unfold Bh;rw [wJ];rfl
def DW(l:List Br):Prop:=∀(i:Nat) (r:Br),l[i]?=some r→M9 (Bh (l.take i)) (i:Int) r.p r.cs∧r.cs.length≤3
theorem RG{rs:List AP}{p rp:Int}{cs:List Chg}(hs:BJ rs)(h:M9 rs p rp cs):BJ (DD rs cs)∧(DD rs cs).length≤2000:=by
 have ha:=RF h.ok.ord;obtain ⟨h1,_⟩:=Jp hs ha h.fit cs.length (tQ _);have h2:=MS hs ha h.fit cs.length (tQ _)
 rw [uQ]at h1 h2;exact ⟨h1,by have:=h.size;omega⟩
theorem DW.rows{l:List Br}(h:DW l):∀i,i≤l.length→BJ (Bh (l.take i))∧(Bh (l.take i)).length≤2000
 |0,_=>⟨List.Pairwise.nil,tX _⟩
 |i+1,hi=>by
  obtain ⟨r,hr⟩:∃r,l[i]?=some r:=⟨_,tF (by omega)⟩;have ih:=DW.rows h i (by omega)
  rw [vK,hr];show BJ (Bh (l.take i++[r]))∧_
  rw [show(some r).toList=[r] from rfl,FI];exact RG ih.1 (h i r hr).1
theorem DW.all{l:List Br}(h:DW l):BJ (Bh l)∧(Bh l).length≤2000:=by
 have:=h.rows l.length (tQ _);rwa [uQ]at this
theorem DW.snoc{l:List Br}(h:DW l){r:Br}(hr:M9 (Bh l) (l.length:Int) r.p r.cs)(h3:r.cs.length≤3):DW (l++[r]):=by
 intro i x hx;rw [zD]at hx;split at hx
 · rename_i hi
   rw [vP (by omega)];exact h i x hx
 · rename_i hi
   have hlt:=(tH.1 hx).1;simp only [tT]at hlt;have e:i=l.length:=by omega
   subst e;rw [xU]at hx;injection hx with hx
   subst hx;rw [ul rfl];exact ⟨hr,h3⟩
theorem GV:∀(cs:List Chg),(Ck cs).length=cs.length*10
 |[]=>rfl
 |c::cs=>by
  have:=GV cs;unfold Ck at*;rw [ui,tK,this,tY];simp;omega
theorem IZ(a b:List Chg):Ck (a++b)=Ck a++Ck b:=by unfold Ck;rw [vX]
theorem Rp(cs:List Chg)(k:Nat):(Ck cs).take (k*10)=Ck (cs.take k):=by
 rcases uJ cs.length k with h|h
 · rw [uN (by rw [GV];omega),uN (by omega)]
 · have e:Ck cs=Ck (cs.take k)++Ck (cs.drop k):=by rw [←IZ,uY]
   rw [e,ul (by rw [GV,tL];omega)]
theorem Rq(cs:List Chg)(k:Nat):(Ck cs).drop (k*10)=Ck (cs.drop k):=by
 rcases uJ cs.length k with h|h
 · rw [vI (by rw [GV];omega),vI (by omega)];rfl
 · have e:Ck cs=Ck (cs.take k)++Ck (cs.drop k):=by rw [←IZ,uY]
   rw [e,wm (by rw [GV,tL];omega)]
theorem Ui(cs:List Chg):∀u∈Ck cs,u.oneCell'=true:=by
 intro u hu;unfold Ck at hu;obtain ⟨r,_,h⟩:=xK.1 hu;simp only [uI,vT,or_false]at h;rcases h with rfl|rfl|rfl|rfl|rfl|rfl|rfl|rfl|rfl|rfl<;>rfl
theorem kU{cur:Array Value}{cs:List Chg}{j:Nat}{y:Chg}(h:Bw cur 0 (Ck cs))(hy:cs[j]?=some y):cur[j*10]?=some (I4 y.t)∧cur[j*10+1]?=some (I4 y.k):=by
 have h1:=GN (fun c:Chg=>[I4 c.t,I4 c.k,.bool c.had,I4 c.o.a,I4 c.o.b,I4 c.o.c,.bool c.has,I4 c.n.a,I4 c.n.b,I4 c.n.c]) 10 (fun _=>rfl) cs j y hy;have e:∀q,((Ck cs).drop (j*10)).take 10=[I4 y.t,I4 y.k,.bool y.had,I4 y.o.a,I4 y.o.b,I4 y.o.c,.bool y.has,I4 y.n.a,I4 y.n.b,I4 y.n.c]→q<10→(Ck cs)[j*10+q]?=([I4 y.t,I4 y.k,.bool y.had,I4 y.o.a,I4 y.o.b,I4 y.o.c,.bool y.has,I4 y.n.a,I4 y.n.b,I4 y.n.c]:List Value)[q]?:=fun q h9 hq=>by
  rw [←h9,uX,if_pos hq,uw]
 have a0:=h.get (j*10+0) _ ((e 0 h1 (by omega)).trans rfl);have a1:=h.get (j*10+1) _ ((e 1 h1 (by omega)).trans rfl)
 rw [uL]at a0 a1;exact ⟨a0,a1⟩
theorem X5{M:List AR}{v:Value}{cs:List Chg}(h:Dh M v cs)(s:List AR):Dh (M++s) v cs:=by
 obtain ⟨p,cap,hv,hl,hg⟩:=h;refine ⟨p,cap,hv,hl,fun i c hc=>?_⟩;obtain ⟨g,off,cur,T,zz,h1,h2,h3⟩:=hg i c hc;exact ⟨g,off,cur,T,zz,h1,u6 _ h2,h3⟩
theorem NZ{M:List AR}{v:Value}{cs:List Chg}(h:Dh M v cs)(s:List AR):Dh (s++M) v cs:=by
 obtain ⟨p,cap,hv,hl,hg⟩:=h;refine ⟨p,cap,hv,hl,fun i c hc=>?_⟩;obtain ⟨g,off,cur,T,zz,h1,h2,h3⟩:=hg i c hc;exact ⟨g,off,cur,T,zz,h1,tZ _ h2,h3⟩
def Ni(M:List AR)(v:Value)(xs:List (List Int)):Prop:=∃p cap,v= .slice p xs.length cap∧(xs.length≤maxLen∧xs.length≤cap)∧∀(i:Nat) (z:List Int),xs[i]?=some z→z.length=6∧(∀n∈z,-9223372036854775808≤n∧n≤9223372036854775807)∧∃g off cur T zz,p=some ⟨g,off,none⟩∧(g,Obj.cells cur T zz)∈M∧∀(j:Nat) (n:Int),z[j]?=some n→cur[off+i*6+j]?=some (I4 n)
theorem Sg{v:Value}{l:List Br}{s MM:List AR}(h:BX 2 73 v l.length (Ej l) s)(hn:l.length≤maxLen)(hM:∀r∈l,Dh MM (.slice r.q r.cs.length r.cap) r.cs):Du (s++MM) v l:=by
 obtain ⟨b,cap,rfl⟩:=h.form;refine ⟨b,cap,rfl,⟨hn,FD h⟩,fun i r hr=>⟨NZ (hM r (tV hr)) s,?_⟩⟩;obtain ⟨g,cap',cur,z,hv,rfl,hsz,hex⟩:=Ha h i (tH.1 hr).1;injection hv with hv1 hv2 hv3
 refine ⟨g,0,cur,73,z,hv1,u6 _ (tq.2 rfl),by omega,?_⟩;rw [uL];apply vS.1;rw [hex];exact GN _ 2 (fun _=>rfl) l i r hr
theorem UG(a b:List Br):Ej (a++b)=Ej a++Ej b:=by unfold Ej;rw [vX]
theorem iN:CO Tryz.prog 47 #[] [] (fun r H'=>∃sp,r=I5 sp∧H'=[[(sp,.cells #[.slice none 0 0,I4 0] 182 (0,0))]]):=by
 refine Se func47 ntmps47 [] ?_;intro u R;refine Zq<|Zg<|Za Y<|Z0<|Zx<|Zq<|Zg<|Zv (BK (vs:=[]) (cs:=#[_,_]) Y (Aa (pl:=#[(0,1),(1,1)]) zeroValue182 underlying182 (fun _=>by kernel_rfl) rfl)) ?_;refine Ze (Bx #[_,_]) ?_;rintro _ _ ⟨sp,rfl,rfl⟩;refine Za Y<|Z0<|Zx<|A9 ?_;refine AB rfl results47 Y (by exact ⟨sp,rfl,rfl⟩)
theorem ou{M:List AR}{v:Value}{xs:List (List Int)}(hX:Ni M v xs)(hx:xs.length≤1000):CO Tryz.prog 105 #[v] [M] (fun r H'=>∃(l:List Br) (s:List AR),DW l∧l.length≤xs.length∧Du s r l∧H'=[s,M]):=by
 have hml:=mL;obtain ⟨px,capx,rfl,hxl,hgx⟩:=id hX;refine Se func105 ntmps105 [0] ?_;intro u R;refine Zq<|Zg<|Za Y<|Z0<|Zx<|Zq<|Zg<|Za Y<|Z0<|Zx<|Zq<|Zg<|Zc [] Y call47 Y rfl (iN) ?_;rintro _ _ ⟨_,⟨sp,rfl,rfl⟩,rfl⟩;refine Za Y<|Z0<|Zx<|Zq<|Zq<|Zg<|Za Y<|Z0<|Zx<|AQ<|Bd ?_;refine Bd ?_;refine Bd ?_;refine Zb [3,5,0,4] ?_;refine Az (e0:=[(3,_),(5,_)]) (fun m e H=>∃(i:Nat) (rcs:List Br) (w wo:Value) (sv so MM:List AR),m=xs.length -i∧(i≤xs.length∧DW rcs∧rcs.length≤i∧BX 5 113 w (Bh rcs).length (Ac (Bh rcs)) sv∧BX 2 73 wo rcs.length (Ej rcs) so∧(∀r∈rcs,Dh MM (.slice r.q r.cs.length r.cap) r.cs))∧e=[(3,wo),(5,I4 (i:Int))]∧H=[[(sp,.cells #[w,I4 (rcs.length:Int)] 182 (0,0))],sv,so,MM]) (by exact ⟨0,[],.slice none 0 0,.slice none 0 0,[],[],[],rfl,⟨tX _,(by intro i r h;cases h),tQ _,BV 5 _,BV 2 _,by simp⟩,rfl,rfl⟩) Wp ?_;rintro _ _ _ ⟨i,rcs,w,wo,sv,so,MM,rfl,⟨hi,hlog,hrl,hrw,hro,hMM⟩,rfl,rfl⟩;obtain ⟨qw,capw,rfl⟩:=hrw.form;obtain ⟨qo,capo,rfl⟩:=hro.form;obtain ⟨hsr,hr2⟩:=hlog.all;have hRW:=Jb hrw (by omega)
 refine Zq<|Zq<|Zg<|Zm Y<|Zm Y<|Zv (AV underlying22 Y)<|Zv (Aq Y Y)<|Z0<|Zx ?_;refine Ao Y (fun hlt=>?_) (fun hlt=>?_)
 ·
  obtain ⟨z,hz0⟩:∃z,xs[i]?=some z:=⟨_,tF hlt⟩;obtain ⟨h6,hrng,g,off,cur,T,zz,rfl,hm,hcx⟩:=hgx i z hz0;refine AC<|Zx<|Zq<|AQ<|Zq<|Zg<|Za Y<|Z0<|Zx<|Zq<|Zq<|Zg<|Za Y<|Z0<|Zx<|AQ<|Bd ?_;refine Zb [6,7,0,3,4,5] ?_;refine Az (e0:=[(6,_),(7,_)]) (fun m e H=>∃(k:Nat) (w2:Value) (cs:List Chg) (sl:List AR),m=3 -k∧(k≤3∧cs.length≤k∧BX 10 77 w2 cs.length (Ck cs) sl)∧e=[(6,w2),(7,I4 (k:Int))]∧H=[sl]) (by exact ⟨0,.slice none 0 0,[],[],rfl,⟨tX _,tQ _,BV 10 _⟩,rfl,rfl⟩) Wp ?_;rintro _ _ _ ⟨k,w2,cs,sl,rfl,⟨hk3,hck,hrl2⟩,rfl,rfl⟩;obtain ⟨gw,cw,rfl⟩:=hrl2.form;have hcw:=FD hrl2
  refine Zq<|Zq<|Zg<|Zm Y<|Zv (Aq (n:=3) Y Y)<|Z0<|Zx ?_;refine Ao Y (fun hk=>?_) (fun hk=>?_)
  ·
   obtain ⟨za,hza⟩:∃n,z[2*k]?=some n:=⟨_,tF (by omega)⟩;obtain ⟨zb,hzb⟩:∃n,z[2*k+1]?=some n:=⟨_,tF (by omega)⟩;have hra:=hrng za (tV hza)
   have hrb:=hrng zb (tV hzb);have hca:=hcx _ _ hza
   have hcb:=hcx _ _ hzb;refine AC<|Zx<|Zq<|AQ<|Zq<|Zg<|Zm Y<|Zm Y<|Zm Y ?_;refine BM (Cz (m:=2) Y Y (by omega)) ?_;refine BM (AU underlying22 sizeOf217 Y Y (by omega)) ?_;refine BM (CR underlying217 sizeOf3 Y Y (by omega)) ?_;refine Cf (cs:=[(g,.cells cur T zz)]) (by simp [hm]) (Bf isAgg3 Y (by first|exact hca|(rw [wP];exact hca))) rfl rfl ?_;refine Za Y<|Z0<|Zx<|Zb [8,0,3,4,5,6,7] ?_;refine CW (e0:=[(8,_)]) (H0:=[]) (fun e H=>∃(n:Nat),(n≤9223372036854775807)∧e=[(8,I4 (n:Int))]∧H=[]) Wp ?hx_3 ?hy_3
   case hx_3=>
    refine Zq<|Zg<|Zm Y<|Zv (Eb Y Y)<|Z0<|Zx ?_;refine Ao Y (fun hna=>?_) (fun hna=>?_)
    ·
     refine Zg<|Zm Y<|Yi Y Y ?_
     (refine BM (TJ Y (IntWalk.i64_in _ ?_)) ?_;(focus (omega)))
     refine Za Y<|Z0<|Zn [8,0,3,4,5,6,7] ?_;refine BB (e':=[(8,_)]) (by exact ⟨(-(za+1)).toNat,by omega,by rw [show(((-(za+1)).toNat:Nat):Int)=0 -(za+1) by omega],rfl⟩)
    refine AC<|Zn [8,0,3,4,5,6,7] ?_;refine BB (e':=[(8,_)]) (by exact ⟨za.toNat,by omega,by rw [show((za.toNat:Nat):Int)=za by omega],rfl⟩)
   rintro _ _ ⟨n,hn,rfl,rfl⟩;refine Zq<|Zg<|Zm Y<|Zm Y<|Zm Y ?_;refine BM (Cz (m:=2) Y Y (by omega)) ?_;refine Ya (n:=1) Y Y ?_;refine BM (AU underlying22 sizeOf217 Y Y (by omega)) ?_;refine BM (CR underlying217 sizeOf3 Y Y (by omega)) ?_;refine Cf (cs:=[(g,.cells cur T zz)]) (by simp [hm]) (Bf isAgg3 Y (by first|exact hcb|(rw [wP];exact hcb))) rfl rfl ?_;refine Za Y<|Z0<|Zx<|Zb [9,0,3,4,5,6,7,8] ?_;refine CW (e0:=[(9,_)]) (H0:=[]) (fun e H=>∃(m:Nat),(m≤9223372036854775807)∧e=[(9,I4 (m:Int))]∧H=[]) Wp ?hx_6 ?hy_6
   case hx_6=>
    refine Zq<|Zg<|Zm Y<|Zv (Eb Y Y)<|Z0<|Zx ?_;refine Ao Y (fun hnb=>?_) (fun hnb=>?_)
    ·
     refine Zg<|Zm Y<|Yi Y Y ?_
     (refine BM (TJ Y (IntWalk.i64_in _ ?_)) ?_;(focus (omega)))
     refine Za Y<|Z0<|Zn [9,0,3,4,5,6,7,8] ?_;refine BB (e':=[(9,_)]) (by exact ⟨(-(zb+1)).toNat,by omega,by rw [show(((-(zb+1)).toNat:Nat):Int)=0 -(zb+1) by omega],rfl⟩)
    refine AC<|Zn [9,0,3,4,5,6,7,8] ?_;refine BB (e':=[(9,_)]) (by exact ⟨zb.toNat,by omega,by rw [show((zb.toNat:Nat):Int)=zb by omega],rfl⟩)
   rintro _ _ ⟨m,hm9,rfl,rfl⟩;refine Zq<|Zg<|Zm Y ?_;refine BM (En (n:=3) Y Y (by omega)) ?_;refine Zm Y ?_
   (refine BM (Jh (n:=3) Y Y ?_ ?_) ?_;(focus (omega));(focus (omega)))
   refine BM (En (n:=9) Y Y (by omega)) ?_;refine Ya (m:=1) Y Y<|Zv (BK (vs:=[(0,_),(1,_)]) (cs:=#[_,_,_,_,_,_,_,_,_,_]) Y (Aa (pl:=#[(0,1),(1,1),(2,1),(3,3),(6,1),(7,3)]) zeroValue77 underlying77 (fun _=>by kernel_rfl) rfl)) ?_;refine Ze (Al zeroValue77 #[_,_,_,_,_,_,_,_,_,_]) ?_;rintro _ _ ⟨cb,rfl,rfl⟩;refine Xe (BN sizeOf77 Y Y (by(simp [Value.oneCell',Value.cells];done)) Wu (by exact (rfl:_=(#[I4 ((n%3:Nat):Int),I4 ((1+n/3%9:Nat):Int),.bool false,I4 0,I4 0,I4 0,.bool false,I4 0,I4 0,I4 0]:Array Value))) (by first|rfl|(simp;done)) (by exact tQ _) (by exact BQ _)) ?_;refine Z0<|Zx<|Zq<|Zg<|Zm Y<|Zh 0 underlying77 rfl rfl sizeOf3 Y<|Zl isAgg3 Y ?_;refine Zh 1 underlying77 rfl rfl sizeOf3 Y<|Zl isAgg3 Y ?_;refine Xr [_,_,_] Y call110 Y rfl (iO sp qw capw (rcs.length:Int) ((n%3:Nat):Int) ((1+n/3%9:Nat):Int) (Bh rcs) sv hRW (by omega) hsr) ?_;obtain ⟨gr,hgr⟩:∃gr,gr=FV (Bh rcs) ((n%3:Nat):Int) ((1+n/3%9:Nat):Int):=⟨_,rfl⟩;rw [←hgr];refine Zm Y<|Zd Y rfl<|Zd Y rfl<|Ze (Al zeroValue113 #[_,_,_,_,_]) ?_;rintro _ _ ⟨ob,rfl,rfl⟩;refine Xe (Xw sizeOf113 #[I4 gr.1.t,I4 gr.1.k,I4 gr.1.v.a,I4 gr.1.v.b,I4 gr.1.v.c]) ?_;refine Za Y<|Z0<|Zn [0,3,4,5,6,7,8,9,10,11,12] ?_;refine Zx<|Zq<|Zg<|Zm Y<|Zh 2 underlying77 rfl rfl sizeOf4 Y<|Xe (Zs sizeOf4 Y Y rfl (hc:=by exact (rfl:_=(#[I4 ((n%3:Nat):Int),I4 ((1+n/3%9:Nat):Int),.bool gr.2,I4 0,I4 0,I4 0,.bool false,I4 0,I4 0,I4 0]:Array Value))) (hi:=by(simp;done))) ?_;refine Z0<|Zx<|Zq<|Zg<|Zh 2 underlying113 rfl rfl sizeOf75 Y<|Zo Wh (Pa #[_,_,_] isAgg75 sizeOf75 Y) ?_;refine Zh 3 underlying77 rfl rfl sizeOf75 Y<|Xe (BN sizeOf75 Y Y (by(simp [Value.oneCell'];done)) Wu (by exact (rfl:_=(#[I4 ((n%3:Nat):Int),I4 ((1+n/3%9:Nat):Int),.bool gr.2,I4 gr.1.v.a,I4 gr.1.v.b,I4 gr.1.v.c,.bool false,I4 0,I4 0,I4 0]:Array Value))) (by first|rfl|(simp;done)) (by(simp;done)) (by exact BQ _)) ?_;refine Z0<|Zx<|Zb [12,0,3,4,5,6,7,8,9,10] ?_
   refine CW (e0:=[(12,_)]) (H0:=[[(cb,.cells #[I4 ((n%3:Nat):Int),I4 ((1+n/3%9:Nat):Int),.bool gr.2,I4 gr.1.v.a,I4 gr.1.v.b,I4 gr.1.v.c,.bool false,I4 0,I4 0,I4 0] 77 (0,0))]]) (fun e H=>∃(hb:Bool),(True)∧e=[]∧H=[[(cb,.cells #[I4 ((n%3:Nat):Int),I4 ((1+n/3%9:Nat):Int),.bool gr.2,I4 gr.1.v.a,I4 gr.1.v.b,I4 gr.1.v.c,.bool hb,I4 0,I4 0,I4 0] 77 (0,0))]]) Wp ?hx_9 ?hy_9
   case hx_9=>
    refine Zg<|Zm Y<|Zv (Ca Y)<|Zm Y ?_;refine Ai (t:=77) Y rfl (fun hh=>?_) (fun hh=>?_)
    ·
     refine A7 Y rfl<|A7 Y rfl<|A7 Y rfl<|Zv (AL Y Y)<|Zh 6 underlying77 rfl rfl sizeOf4 Y<|Xe (Zs sizeOf4 Y Y rfl (hi:=by(simp;done))) ?_;refine Z0<|Zn [0,3,4,5,6,7,8,9,10] ?_;refine BB (e':=[]) (H':=[[(cb,.cells #[_,_,_,_,_,_,_,_,_,_] 77 (0,0))]]) ?_;exact ⟨_,trivial,rfl,rfl⟩
    refine Zf Y Y ?_
    (refine FX Y (En (n:=4) Y Y ?_) rfl rfl ?_;(focus (omega)))
    refine Yg (DJ (n:=0) Y Y)<|Zv (AA Y Y)<|Zh 6 underlying77 rfl rfl sizeOf4 Y<|Xe (Zs sizeOf4 Y Y rfl (hi:=by(simp;done))) ?_;refine Z0<|Zn [0,3,4,5,6,7,8,9,10] ?_;refine BB (e':=[]) (H':=[[(cb,.cells #[_,_,_,_,_,_,_,_,_,_] 77 (0,0))]]) ?_;exact ⟨_,trivial,rfl,rfl⟩
   rintro _ _ ⟨hb,_,rfl,rfl⟩;refine Zb [9,0,3,4,5,6,7,8,10] ?_;refine CW (e0:=[(9,_)]) (H0:=[[(cb,.cells #[I4 ((n%3:Nat):Int),I4 ((1+n/3%9:Nat):Int),.bool gr.2,I4 gr.1.v.a,I4 gr.1.v.b,I4 gr.1.v.c,.bool hb,I4 0,I4 0,I4 0] 77 (0,0))]]) (fun e H=>∃(c:Chg),(True)∧e=[]∧H=[[(cb,.cells #[I4 c.t,I4 c.k,.bool c.had,I4 c.o.a,I4 c.o.b,I4 c.o.c,.bool c.has,I4 c.n.a,I4 c.n.b,I4 c.n.c] 77 (0,0))]]) Wp ?hx_10 ?hy_10
   case hx_10=>
    refine Zq<|Zg<|Zh 6 underlying77 rfl rfl sizeOf4 Y<|Zl isAgg4 Y ?_;refine Z0<|Zx ?_;refine Af Y (fun hhb=>?_) (fun hhb=>?_)
    ·
     refine Zg<|Zm Y ?_
     (refine BM (Jh (n:=4) Y Y ?_ ?_) ?_;(focus (omega));(focus (omega)))
     refine BM (En (n:=10) Y Y (by omega)) ?_;refine Zm Y ?_
     (refine BM (Jh (n:=40) Y Y ?_ ?_) ?_;(focus (omega));(focus (omega)))
     refine BM (En (n:=9) Y Y (by omega)) ?_;refine Ya (m:=1) Y Y<|Zm Y ?_
     (refine BM (Jh (n:=400) Y Y ?_ ?_) ?_;(focus (omega));(focus (omega)))
     refine BM (En (n:=40) Y Y (by omega)) ?_
     (refine BM (G8 Y Y (IntWalk.i64_in _ ?_)) ?_;(focus (omega)))
     refine Zv (BK (vs:=[(0,_),(1,_),(2,_)]) (cs:=#[_,_,_]) Y (Ch zeroValue75 underlying75 sizeOf3 rfl)) ?_;refine Zh 7 underlying77 rfl rfl sizeOf75 Y<|Xe (BN sizeOf75 Y Y (by(simp [Value.oneCell',Value.cells];done)) Wu (by rfl) (by first|rfl|(simp;done)) (by exact tQ _) (by exact BQ _)) ?_;refine Z0<|Zn [0,3,4,5,6,7,8,10] ?_;refine BB (e':=[]) (H':=[[(cb,.cells #[_,_,_,_,_,_,_,_,_,_] 77 (0,0))]]) ?_;exact ⟨⟨_,_,_,gr.1.v,_,⟨_,_,_⟩⟩,trivial,rfl,rfl⟩
    refine AC<|Zn [0,3,4,5,6,7,8,10] ?_;refine BB (e':=[]) (H':=[[(cb,.cells #[_,_,_,_,_,_,_,_,_,_] 77 (0,0))]]) ?_;exact ⟨⟨_,_,_,gr.1.v,_,⟨_,_,_⟩⟩,trivial,rfl,rfl⟩
   rintro _ _ ⟨c,_,rfl,rfl⟩;refine Zq<|Zg<|Za Y<|Z0<|Zx<|Zq<|Zq<|Zg<|Za Y<|Z0<|Zx<|AQ<|Zb [13,14,0,3,4,5,6,7,8,10] ?_;refine Az (e0:=[(13,_),(14,_)]) (fun m e H=>∃(j:Nat) (b:Bool),m=cs.length -j∧(j≤cs.length)∧e=[(13,.bool b),(14,I4 (j:Int))]∧H=[]) (by exact ⟨0,false,rfl,tX _,rfl,rfl⟩) Wp ?_;rintro _ _ _ ⟨j,b,rfl,hj,rfl,rfl⟩;refine Zq<|Zq<|Zg<|Zm Y<|Zm Y<|Zv (AV underlying71 Y)<|Zv (Aq Y Y)<|Z0<|Zx ?_;refine Ao Y (fun hjl=>?_) (fun hjl=>?_)
   ·
    refine AC<|Zx<|Zq<|AQ ?_;obtain ⟨y,hy⟩:∃y,cs[j]?=some y:=⟨_,tF hjl⟩;obtain ⟨gl,capl,curl,zl,hvl,hsl,hlel,hinl⟩:=Db hrl2 (by omega);injection hvl with hv1 hv2 hv3
    subst hv1 hsl;obtain ⟨hy0,hy1⟩:=kU hinl hy;refine BI (n:=22) (0::1::3::3::15::31::63::3::131::511::1023::2047::2047::8191::16383::32767::2047::67583::262143::524287::1048575::2097151::[]) 0 (by kernel_rfl) (by kernel_rfl) rfl ?_;refine Zi 1 0 rfl (AJ Y)<|Zi 3 1 rfl (AJ Y) ?_;refine CP (t:=105) Y (fun hgk=>?_) (fun hgk=>?_)
    ·
     first|rw [decide_eq_true hgk]|rw [hgk]|skip
     refine Yk 7 2 rfl<|Yk 15 3 rfl<|Yk 31 4 rfl<|Yk 63 5 rfl<|Yk 127 6 rfl<|Yk 255 7 rfl<|Yk 511 8 rfl<|Yk 1023 9 rfl<|Yk 2047 10 rfl<|Yk 4095 11 rfl<|Yk 8191 12 rfl<|Yk 16383 13 rfl<|Yk 32767 14 rfl<|Yk 65535 15 rfl<|Yk 131071 16 rfl<|Yk 262143 17 rfl<|Yk 524287 18 rfl<|Yk 1048575 19 rfl<|Zi 2097151 20 rfl (AL Y Y)<|Zi 4194303 21 rfl (Ay Y)<|Am ?_;refine Zn [0,3,4,5,6,7,8,10,13,14] ?_;refine A8<|Zx<|Zg<|Zm Y<|Ya (n:=1) Y Y<|Za Y<|Z0<|Zn [13,14,0,3,4,5,6,7,8,10] ?_;refine Ab (e':=[(13,_),(14,_)]) (by exact ⟨j+1,_,rfl,by omega,rfl,rfl⟩)
    first|rw [decide_eq_false hgk]|rw [hgk]|skip
    refine Ag (D':=7) 2 Y rfl rfl rfl (AJ Y) ?_;refine Ag (D':=15) 3 Y rfl rfl rfl (AJ Y) ?_;refine Ag (D':=31) 4 Y rfl rfl rfl (AU underlying71 sizeOf77 Y Y (by omega)) ?_;refine Ag (D':=63) 5 Y rfl rfl rfl (BH (off:=0) underlying77 rfl rfl sizeOf3 Y) ?_;refine Bl (D':=127) 6 Y rfl rfl rfl Wh (Bf isAgg3 Y (by simpa using hy0)) ?_;refine Ag (D':=255) 7 Y rfl rfl rfl (AZ (off:=0) underlying77 rfl rfl sizeOf3 Y) ?_;refine Bl (D':=511) 8 Y rfl rfl rfl Wh (Bf isAgg3 Y (by rfl)) ?_;refine Ag (D':=1023) 9 Y rfl rfl rfl (CF Y Y) ?_;refine Ag (D':=2047) 10 Y rfl rfl rfl (AJ Y) ?_;refine CS (t:=114) Y (fun hgk=>?_) (fun hgk=>?_)
    ·
     first|rw [decide_eq_true hgk]|rw [hgk]|skip
     refine Ag (D':=4095) 11 Y rfl rfl rfl (AJ Y) ?_;refine Ag (D':=8191) 12 Y rfl rfl rfl (AJ Y) ?_;refine Ag (D':=16383) 13 Y rfl rfl rfl (AU underlying71 sizeOf77 Y Y (by omega)) ?_;refine Ag (D':=32767) 14 Y rfl rfl rfl (BH (off:=1) underlying77 rfl rfl sizeOf3 Y) ?_;refine Bl (D':=65535) 15 Y rfl rfl rfl Wh (Bf isAgg3 Y (by simpa using hy1)) ?_;refine Ag (D':=131071) 16 Y rfl rfl rfl (AZ (off:=1) underlying77 rfl rfl sizeOf3 Y) ?_;refine Bl (D':=262143) 17 Y rfl rfl rfl Wh (Bf isAgg3 Y (by rfl)) ?_;refine Ag (D':=524287) 18 Y rfl rfl rfl (CF Y Y) ?_;refine Ag (D':=1048575) 19 Y rfl rfl rfl (AL Y Y) ?_;refine Zi 2097151 20 rfl (AA Y Y)<|Zi 4194303 21 rfl (Ay Y)<|Am ?_;refine Zn [0,3,4,5,6,7,8,10,13,14] ?_;refine A8<|Zx<|Zg<|Zm Y<|Ya (n:=1) Y Y<|Za Y<|Z0<|Zn [13,14,0,3,4,5,6,7,8,10] ?_;refine Ab (e':=[(13,_),(14,_)]) (by exact ⟨j+1,_,rfl,by omega,rfl,rfl⟩)
    first|rw [decide_eq_false hgk]|rw [hgk]|skip
    refine Yk 4095 11 rfl<|Yk 8191 12 rfl<|Yk 16383 13 rfl<|Yk 32767 14 rfl<|Yk 65535 15 rfl<|Yk 131071 16 rfl<|Yk 262143 17 rfl<|Yk 524287 18 rfl<|Ag (D':=1048575) 19 Y rfl rfl rfl (AA Y Y) ?_;refine Zi 2097151 20 rfl (AA Y Y)<|Zi 4194303 21 rfl (Ay Y)<|Am ?_;refine Zn [0,3,4,5,6,7,8,10,13,14] ?_;refine A8<|Zx<|Zg<|Zm Y<|Ya (n:=1) Y Y<|Za Y<|Z0<|Zn [13,14,0,3,4,5,6,7,8,10] ?_;refine Ab (e':=[(13,_),(14,_)]) (by exact ⟨j+1,_,rfl,by omega,rfl,rfl⟩)
   refine Ar<|Zt<|Zt<|AO<|Zx<|Zb [8,13,0,3,4,5,6,7,10] ?_;refine CW (e0:=[(8,_),(13,_)]) (H0:=[]) (fun e H=>(True)∧e=[]∧H=[]) Wp ?hx_15 ?hy_15
   case hx_15=>
    refine Zq<|Zg<|Zm Y<|Zm Y ?_;refine Ai (t:=126) Y rfl (fun hgd=>?_) (fun hgd=>?_)
    ·
     refine A7 Y rfl<|A7 Y rfl<|A7 Y rfl<|A7 Y rfl<|A7 Y rfl<|A7 Y rfl<|A7 Y rfl<|A7 Y rfl<|A7 Y rfl<|A7 Y rfl<|A7 Y rfl<|A7 Y rfl<|A7 Y rfl<|Zv (AL Y Y)<|Zm Y<|A7 Y rfl<|A7 Y rfl<|A7 Y rfl<|A7 Y rfl<|A7 Y rfl<|A7 Y rfl<|A7 Y rfl<|Zv (AL Y Y)<|Z0 ?_;refine Zn [0,3,4,5,6,7,10,149] ?_;refine Zx<|CE Y<|Ar<|Zt<|AO<|Zx<|Zg<|Zm Y<|Ya (n:=1) Y Y<|Za Y<|Z0<|Zn [6,7,0,3,4,5] ?_;refine Ab (e':=[(6,_),(7,_)]) (by exact ⟨k+1,_,cs,sl,rfl,⟨by omega,by omega,hrl2⟩,rfl,rfl⟩)
    refine Yf 2 underlying77 rfl rfl sizeOf4 Y<|Yl isAgg4 Y ?_;refine Zf Y Y ?_;refine Ai (t:=129) Y rfl (fun hgd=>?_) (fun hgd=>?_)
    ·
     refine Yf 6 underlying77 rfl rfl sizeOf4 Y<|Yl isAgg4 Y ?_;refine Yg (AL Y Y)<|Zf Y Y ?_;refine Ai (t:=133) Y rfl (fun hgd=>?_) (fun hgd=>?_)
     ·
      refine Yf 3 underlying77 rfl rfl sizeOf75 Y<|DL Y Wh (AX (cs:=#[_,_,_]) isAgg75 sizeOf75 Y (by(simp;done)) (by rfl)) rfl rfl ?_;refine Yf 7 underlying77 rfl rfl sizeOf75 Y<|DL Y Wh (Pa #[_,_,_] isAgg75 sizeOf75 Y) rfl rfl ?_;refine Yg (K8 (by kernel_rfl) underlying75 underlying3 isAgg3 sizeOf3 Y Y) ?_;refine Yg (AL Y Y)<|Zv (AA Y Y)<|Zm Y ?_;refine Aj (t:=141) Y rfl (fun hgd=>?_) (fun hgd=>?_)
      ·
       refine A7 Y rfl<|A7 Y rfl<|A7 Y rfl<|A7 Y rfl<|A7 Y rfl<|A7 Y rfl<|A7 Y rfl<|Zv (AL Y Y)<|Z0<|Zn [0,3,4,5,6,7,10,149] ?_;refine Zx<|CE Y<|Ar<|Zt<|AO<|Zx<|Zg<|Zm Y<|Ya (n:=1) Y Y<|Za Y<|Z0<|Zn [6,7,0,3,4,5] ?_;refine Ab (e':=[(6,_),(7,_)]) (by exact ⟨k+1,_,cs,sl,rfl,⟨by omega,by omega,hrl2⟩,rfl,rfl⟩)
      refine Zf Y Y<|Yg (DJ (n:=0) Y Y)<|Zf Y Y ?_;refine Aj (t:=144) Y rfl (fun hgd=>?_) (fun hgd=>?_)
      ·
       refine Zf Y Y ?_
       (refine FX Y (En (n:=5) Y Y ?_) rfl rfl ?_;(focus (omega)))
       refine Yg (C8 (n:=0) Y Y)<|Yg (AL Y Y)<|Zv (AA Y Y)<|Z0<|Zn [0,3,4,5,6,7,10,149] ?_;refine Zx ?_;refine Ao Y (fun hgi=>?_) (fun hgi=>?_)
       ·
        refine Ar<|Zt<|AO<|Zx<|Zg<|Zm Y<|Ya (n:=1) Y Y<|Za Y<|Z0<|Zn [6,7,0,3,4,5] ?_;refine Ab (e':=[(6,_),(7,_)]) (by exact ⟨k+1,_,cs,sl,rfl,⟨by omega,by omega,hrl2⟩,rfl,rfl⟩)
       refine AC<|Zn [0,3,4,5,6,7,10] ?_;refine BB (e':=[]) (by exact ⟨trivial,rfl,rfl⟩)
      refine A7 Y rfl<|A7 Y rfl<|A7 Y rfl<|Yg (AA Y Y)<|Zv (AA Y Y)<|Z0<|Zn [0,3,4,5,6,7,10,149] ?_;refine Zx<|Di Y<|AC<|Zn [0,3,4,5,6,7,10] ?_;refine BB (e':=[]) (by exact ⟨trivial,rfl,rfl⟩)
     refine A7 Y rfl<|A7 Y rfl<|A7 Y rfl<|A7 Y rfl<|A7 Y rfl<|Yg (AA Y Y)<|Zv (AA Y Y)<|Zm Y<|Zf Y Y<|Yg (DJ (n:=0) Y Y)<|Zf Y Y ?_;refine Aj (t:=144) Y rfl (fun hgd=>?_) (fun hgd=>?_)
     ·
      refine Zf Y Y ?_
      (refine FX Y (En (n:=5) Y Y ?_) rfl rfl ?_;(focus (omega)))
      refine Yg (C8 (n:=0) Y Y)<|Yg (AL Y Y)<|Zv (AA Y Y)<|Z0<|Zn [0,3,4,5,6,7,10,149] ?_;refine Zx ?_;refine Ao Y (fun hgi=>?_) (fun hgi=>?_)
      ·
       refine Ar<|Zt<|AO<|Zx<|Zg<|Zm Y<|Ya (n:=1) Y Y<|Za Y<|Z0<|Zn [6,7,0,3,4,5] ?_;refine Ab (e':=[(6,_),(7,_)]) (by exact ⟨k+1,_,cs,sl,rfl,⟨by omega,by omega,hrl2⟩,rfl,rfl⟩)
      refine AC<|Zn [0,3,4,5,6,7,10] ?_;refine BB (e':=[]) (by exact ⟨trivial,rfl,rfl⟩)
     refine A7 Y rfl<|A7 Y rfl<|A7 Y rfl<|Yg (AA Y Y)<|Zv (AA Y Y)<|Z0<|Zn [0,3,4,5,6,7,10,149] ?_;refine Zx<|Di Y<|AC<|Zn [0,3,4,5,6,7,10] ?_;refine BB (e':=[]) (by exact ⟨trivial,rfl,rfl⟩)
    refine A7 Y rfl<|A7 Y rfl<|Yg (AA Y Y)<|Zf Y Y<|A7 Y rfl<|A7 Y rfl<|A7 Y rfl<|A7 Y rfl<|A7 Y rfl<|Yg (AA Y Y)<|Zv (AA Y Y)<|Zm Y<|Zf Y Y<|Yg (DJ (n:=0) Y Y)<|Zf Y Y ?_;refine Aj (t:=144) Y rfl (fun hgd=>?_) (fun hgd=>?_)
    ·
     refine Zf Y Y ?_
     (refine FX Y (En (n:=5) Y Y ?_) rfl rfl ?_;(focus (omega)))
     refine Yg (C8 (n:=0) Y Y)<|Yg (AL Y Y)<|Zv (AA Y Y)<|Z0<|Zn [0,3,4,5,6,7,10,149] ?_;refine Zx ?_;refine Ao Y (fun hgi=>?_) (fun hgi=>?_)
     ·
      refine Ar<|Zt<|AO<|Zx<|Zg<|Zm Y<|Ya (n:=1) Y Y<|Za Y<|Z0<|Zn [6,7,0,3,4,5] ?_;refine Ab (e':=[(6,_),(7,_)]) (by exact ⟨k+1,_,cs,sl,rfl,⟨by omega,by omega,hrl2⟩,rfl,rfl⟩)
     refine AC<|Zn [0,3,4,5,6,7,10] ?_;refine BB (e':=[]) (by exact ⟨trivial,rfl,rfl⟩)
    refine A7 Y rfl<|A7 Y rfl<|A7 Y rfl<|Yg (AA Y Y)<|Zv (AA Y Y)<|Z0<|Zn [0,3,4,5,6,7,10,149] ?_;refine Zx<|Di Y<|AC<|Zn [0,3,4,5,6,7,10] ?_;refine BB (e':=[]) (by exact ⟨trivial,rfl,rfl⟩)
   rintro _ _ ⟨_,rfl,rfl⟩;refine Zq<|Zg<|Zm Y<|Zv (AV underlying71 Y)<|Za Y<|Z0<|Zx<|Zb [15,0,3,4,5,6,7,10] ?_;refine CW (e0:=[(15,_)]) (H0:=[]) (fun e H=>∃(j:Nat),(j≤cs.length)∧e=[(15,I4 (j:Int))]∧H=[]) Wp ?hx_27 ?hy_27
   case hx_27=>
    refine AQ<|Zb [15,0,3,4,5,6,7,10] ?_;refine Az (e0:=[(15,_)]) (fun m e H=>∃(j:Nat),m=0+j∧(j≤cs.length)∧e=[(15,I4 (j:Int))]∧H=[]) (by exact ⟨cs.length,rfl,tQ _,rfl,rfl⟩) Wp ?_;rintro _ _ _ ⟨j,rfl,hj,rfl,rfl⟩;refine Zq<|Zq<|BI (n:=35) (0::1::3::7::7::23::63::127::255::7::519::2047::4095::8191::8191::24575::65535::131071::262143::8191::532479::2097151::4194303::8388607::8388607::25165823::67108863::134217727::268435455::8388607::545259519::2147483647::4294967295::8589934591::17179869183::[]) 0 (by kernel_rfl) (by kernel_rfl) rfl ?_;refine Zi 1 0 rfl (AJ Y)<|Zi 3 1 rfl (DJ (n:=0) Y Y)<|Zi 7 2 rfl (AJ Y) ?_;refine CS (t:=154) Y (fun hjp=>?_) (fun hjp=>?_)
    ·
     first|rw [decide_eq_true hjp]|rw [hjp]|skip
     obtain ⟨y,hy⟩:∃y,cs[j -1]?=some y:=⟨_,tF (by omega)⟩;obtain ⟨gl,capl,curl,zl,hvl,hsl,hlel,hinl⟩:=Db hrl2 (by omega);injection hvl with hv1 hv2 hv3
     subst hv1 hsl;obtain ⟨hy0,hy1⟩:=kU hinl hy;refine Ag (D':=15) 3 Y rfl rfl rfl (AJ Y) ?_;refine Ag (D':=31) 4 Y rfl rfl rfl (AJ Y) ?_
     (refine Ag (D':=63) 5 Y rfl rfl rfl (Bg (n:=1) Y Y ?_ ?_) ?_;(focus (omega));(focus (omega)))
     refine Ag (D':=127) 6 Y rfl rfl rfl (AU underlying71 sizeOf77 Y Y (by omega)) ?_;refine Ag (D':=255) 7 Y rfl rfl rfl (BH (off:=0) underlying77 rfl rfl sizeOf3 Y) ?_;refine Bl (D':=511) 8 Y rfl rfl rfl Wh (Bf isAgg3 Y (by simpa using hy0)) ?_;refine Ag (D':=1023) 9 Y rfl rfl rfl (AZ (off:=0) underlying77 rfl rfl sizeOf3 Y) ?_;refine Bl (D':=2047) 10 Y rfl rfl rfl Wh (Bf isAgg3 Y (by rfl)) ?_;refine Ag (D':=4095) 11 Y rfl rfl rfl (Es Y Y) ?_;refine Ag (D':=8191) 12 Y rfl rfl rfl (AJ Y) ?_;refine CS (t:=164) Y (fun hgm=>?_) (fun hgm=>?_)
     ·
      first|rw [decide_eq_true hgm]|rw [hgm]|skip
      refine Yk 16383 13 rfl<|Yk 32767 14 rfl<|Yk 65535 15 rfl<|Yk 131071 16 rfl<|Yk 262143 17 rfl<|Yk 524287 18 rfl<|Yk 1048575 19 rfl<|Yk 2097151 20 rfl<|Yk 4194303 21 rfl<|Yk 8388607 22 rfl<|Yk 16777215 23 rfl<|Yk 33554431 24 rfl<|Yk 67108863 25 rfl<|Yk 134217727 26 rfl<|Yk 268435455 27 rfl<|Yk 536870911 28 rfl<|Yk 1073741823 29 rfl<|Yk 2147483647 30 rfl<|Yk 4294967295 31 rfl<|Yk 8589934591 32 rfl<|Ag (D':=17179869183) 33 Y rfl rfl rfl (AL Y Y) ?_;refine Zi 34359738367 34 rfl (AL Y Y)<|Am ?_;refine Zn [0,3,4,5,6,7,10,15,186] ?_;refine Zx<|CE Y<|AC<|Zx<|AQ<|Zg<|Zm Y<|Yb (n:=1) Y Y<|Za Y<|Z0<|A8<|Zn [15,0,3,4,5,6,7,10] ?_;refine Ab (e':=[(15,_)]) (by exact ⟨j -1,rfl,by omega,rfl,rfl⟩)
     first|rw [decide_eq_false hgm]|rw [hgm]|skip
     refine Ag (D':=16383) 13 Y rfl rfl rfl (AJ Y) ?_;refine Ag (D':=32767) 14 Y rfl rfl rfl (AJ Y) ?_
     (refine Ag (D':=65535) 15 Y rfl rfl rfl (Bg (n:=1) Y Y ?_ ?_) ?_;(focus (omega));(focus (omega)))
     refine Ag (D':=131071) 16 Y rfl rfl rfl (AU underlying71 sizeOf77 Y Y (by omega)) ?_;refine Ag (D':=262143) 17 Y rfl rfl rfl (BH (off:=0) underlying77 rfl rfl sizeOf3 Y) ?_;refine Bl (D':=524287) 18 Y rfl rfl rfl Wh (Bf isAgg3 Y (by simpa using hy0)) ?_;refine Ag (D':=1048575) 19 Y rfl rfl rfl (AZ (off:=0) underlying77 rfl rfl sizeOf3 Y) ?_;refine Bl (D':=2097151) 20 Y rfl rfl rfl Wh (Bf isAgg3 Y (by rfl)) ?_;refine Ag (D':=4194303) 21 Y rfl rfl rfl (CF Y Y) ?_;refine Ag (D':=8388607) 22 Y rfl rfl rfl (AJ Y) ?_;refine CS (t:=174) Y (fun hgm=>?_) (fun hgm=>?_)
     ·
      first|rw [decide_eq_true hgm]|rw [hgm]|skip
      refine Ag (D':=16777215) 23 Y rfl rfl rfl (AJ Y) ?_;refine Ag (D':=33554431) 24 Y rfl rfl rfl (AJ Y) ?_
      (refine Ag (D':=67108863) 25 Y rfl rfl rfl (Bg (n:=1) Y Y ?_ ?_) ?_;(focus (omega));(focus (omega)))
      refine Ag (D':=134217727) 26 Y rfl rfl rfl (AU underlying71 sizeOf77 Y Y (by omega)) ?_;refine Ag (D':=268435455) 27 Y rfl rfl rfl (BH (off:=1) underlying77 rfl rfl sizeOf3 Y) ?_;refine Bl (D':=536870911) 28 Y rfl rfl rfl Wh (Bf isAgg3 Y (by simpa using hy1)) ?_;refine Ag (D':=1073741823) 29 Y rfl rfl rfl (AZ (off:=1) underlying77 rfl rfl sizeOf3 Y) ?_;refine Bl (D':=2147483647) 30 Y rfl rfl rfl Wh (Bf isAgg3 Y (by rfl)) ?_;refine Ag (D':=4294967295) 31 Y rfl rfl rfl (Es Y Y) ?_;refine Ag (D':=8589934591) 32 Y rfl rfl rfl (AL Y Y) ?_;refine Ag (D':=17179869183) 33 Y rfl rfl rfl (AA Y Y) ?_;refine Zi 34359738367 34 rfl (AL Y Y)<|Am ?_;refine Zn [0,3,4,5,6,7,10,15,186] ?_;refine Zx ?_;refine Ao Y (fun hgj=>?_) (fun hgj=>?_)
      ·
       refine AC<|Zx<|AQ<|Zg<|Zm Y<|Yb (n:=1) Y Y<|Za Y<|Z0<|A8<|Zn [15,0,3,4,5,6,7,10] ?_;refine Ab (e':=[(15,_)]) (by exact ⟨j -1,rfl,by omega,rfl,rfl⟩)
      refine Ar<|Zt<|Zt<|AO<|Zn [15,0,3,4,5,6,7,10] ?_;refine BB (e':=[(15,_)]) (by exact ⟨j,hj,rfl,rfl⟩)
     first|rw [decide_eq_false hgm]|rw [hgm]|skip
     refine Yk 16777215 23 rfl<|Yk 33554431 24 rfl<|Yk 67108863 25 rfl<|Yk 134217727 26 rfl<|Yk 268435455 27 rfl<|Yk 536870911 28 rfl<|Yk 1073741823 29 rfl<|Yk 2147483647 30 rfl<|Yk 4294967295 31 rfl<|Ag (D':=8589934591) 32 Y rfl rfl rfl (AA Y Y) ?_;refine Ag (D':=17179869183) 33 Y rfl rfl rfl (AA Y Y) ?_;refine Zi 34359738367 34 rfl (AL Y Y)<|Am ?_;refine Zn [0,3,4,5,6,7,10,15,186] ?_;refine Zx<|Di Y<|Ar<|Zt<|Zt<|AO<|Zn [15,0,3,4,5,6,7,10] ?_;refine BB (e':=[(15,_)]) (by exact ⟨j,hj,rfl,rfl⟩)
    first|rw [decide_eq_false hjp]|rw [hjp]|skip
    refine Yk 15 3 rfl<|Yk 31 4 rfl<|Yk 63 5 rfl<|Yk 127 6 rfl<|Yk 255 7 rfl<|Yk 511 8 rfl<|Yk 1023 9 rfl<|Yk 2047 10 rfl<|Yk 4095 11 rfl<|Yk 8191 12 rfl<|Yk 16383 13 rfl<|Yk 32767 14 rfl<|Yk 65535 15 rfl<|Yk 131071 16 rfl<|Yk 262143 17 rfl<|Yk 524287 18 rfl<|Yk 1048575 19 rfl<|Yk 2097151 20 rfl<|Yk 4194303 21 rfl<|Yk 8388607 22 rfl<|Yk 16777215 23 rfl<|Yk 33554431 24 rfl<|Yk 67108863 25 rfl<|Yk 134217727 26 rfl ?_;refine Yk 268435455 27 rfl<|Yk 536870911 28 rfl<|Yk 1073741823 29 rfl<|Yk 2147483647 30 rfl<|Yk 4294967295 31 rfl<|Yk 8589934591 32 rfl<|Yk 17179869183 33 rfl<|Zi 34359738367 34 rfl (AA Y Y)<|Am ?_;refine Zn [0,3,4,5,6,7,10,15,186] ?_;refine Zx<|Di Y<|Ar<|Zt<|Zt<|AO<|Zn [15,0,3,4,5,6,7,10] ?_;refine BB (e':=[(15,_)]) (by exact ⟨j,hj,rfl,rfl⟩)
   rintro _ _ ⟨j,hj,rfl,rfl⟩;refine BI (n:=12) (0::0::0::7::0::16::0::0::192::496::1023::2047::[]) 1568 (by kernel_rfl) (by kernel_rfl) rfl ?_;refine Zi 1 0 rfl (AJ Y)<|Zi 3 1 rfl (AJ Y)<|Zi 7 2 rfl (AJ Y) ?_;refine Zi 15 3 rfl (JH underlying71 sizeOf77 Y Y Y (by omega)) ?_;refine Cj (D':=31) 4 rfl rfl rfl Wh (Pa #[_,_,_,_,_,_,_,_,_,_] isAgg77 sizeOf77 Y) ?_;refine Zi 95 6 rfl (AJ Y)<|Zi 223 7 rfl (AJ Y) ?_;refine Zi 479 8 rfl (Bz underlying71 sizeOf77 Y Y (by omega)) ?_;refine Yw 5 511 rfl (Ae (vs:=[_]) (cs:=[_,_,_,_,_,_,_,_,_,_]) underlying71 sizeOf77 zeroValue77 Y rfl rfl rfl rfl rfl) ?_;rintro _ _ ⟨gb,rfl,rfl⟩;refine Yw 9 1023 rfl (BR (by_:=80) (sz:=10) underlying71 (rfl:Tryz.prog.info? 77=some Tryz.t77) rfl rfl rfl rfl Y (Iq 10 77 gb 1 (Ck [c]) rfl (by decide)) Y (Ie hrl2 j (cs.length -j) _ (by omega)) Wo Wo (by exact fun u hu=>Ui cs u (vC hu)) (by omega) (by omega)) ?_;rintro _ _ ⟨sa9,hra9,rfl⟩;obtain ⟨ga9,ca9,rfl⟩:=hra9.form;refine Yw 10 2047 rfl (KW (by_:=80) (sz:=10) underlying71 (rfl:Tryz.prog.info? 77=some Tryz.t77) rfl rfl rfl rfl Y (Ic hrl2 j _ hj) Y (U4 hra9) Wo Wo (by omega) (by omega) (by omega)) ?_;rintro _ _ ⟨sb9,hrb9,rfl⟩;have hnew:=BO hrb9 (n':=(cs.take j++[c]++cs.drop j).length) (xs':=Ck (cs.take j++[c]++cs.drop j)) (by simp only [tK,tL,tN,tT];omega) (by rw [IZ,IZ,Rp,Rq,tO])
   obtain ⟨gb9,cb9,rfl⟩:=hrb9.form;refine Zi 4095 11 rfl (Ay Y)<|Am ?_;refine A8<|Zx<|Zg<|Zm Y<|Ya (n:=1) Y Y<|Za Y<|Z0<|Zn [6,7,0,3,4,5] ?_;refine Ab (e':=[(6,_),(7,_)]) (by exact ⟨k+1,_,cs.take j++[c]++cs.drop j,_,rfl,⟨by omega,by simp only [tK,tL,tN,tT];omega,hnew⟩,rfl,rfl⟩)
  refine Ar<|Zt<|Zt<|AO<|Zx<|Zq<|Zg<|Zm Y<|Zp Y rfl<|Zh 1 underlying182 rfl rfl sizeOf3 Y<|Zl isAgg3 Y ?_;refine Ya (n:=1) Y Y<|Zm Y<|Zv (BK (vs:=[(0,_),(1,_)]) (cs:=#[_,_]) Y (Aa (pl:=#[(0,1),(1,1)]) zeroValue73 underlying73 (fun _=>by kernel_rfl) rfl)) ?_;refine Ze (Al zeroValue73 #[_,_]) ?_;rintro _ _ ⟨rb,rfl,rfl⟩;refine Xe (BN sizeOf73 Y Y (by(simp [Value.oneCell',Value.cells];done)) Wu (by exact (rfl:_=(#[I4 ((rcs.length:Int)+1),.slice gw cs.length cw]:Array Value))) (by first|rfl|(simp;done)) (by exact tQ _) (by exact BQ _)) ?_;refine Z0<|Zx<|Zq<|Zg<|Zm Y<|Zo Wh (Pa #[_,_] isAgg73 sizeOf73 Y) ?_;refine Zc [_,_] Y call48 Y rfl (Vg sp (rcs.length:Int) ((rcs.length:Int)+1) _ (Bh rcs) sv sl gw cw cs hrw (Tj hrl2 (by omega)) hsr hr2 (by omega)) ?_;rintro _ _ ⟨_,hres,rfl⟩;rcases hres with⟨hap,v2,sv2,rfl,hrw2,rfl⟩|⟨hap,rfl,rfl⟩
  ·
   refine Za Y<|Z0<|Zn [0,3,4,5,16,17] ?_;refine Zx<|Zq<|Zg<|Zm Y<|Zv (C8 (n:=0) Y Y)<|Z0<|Zx ?_;refine Ao Y (fun he=>?_) (fun he=>?_)
   ·
    have hlog2:DW (rcs++[⟨(rcs.length:Int)+1,gw,cw,cs⟩]):=hlog.snoc hap (by show cs.length≤3;omega);have hpos3:(((rcs++[(⟨(rcs.length:Int)+1,gw,cw,cs⟩:Br)]).length:Nat):Int)=(rcs.length:Int)+1:=by rw [tK,tT];omega
    have hrw3:BX 5 113 v2 (Bh (rcs++[⟨(rcs.length:Int)+1,gw,cw,cs⟩])).length (Ac (Bh (rcs++[⟨(rcs.length:Int)+1,gw,cw,cs⟩]))) sv2:=by rw [FI];exact hrw2
    have hMM3:∀r∈rcs++[(⟨(rcs.length:Int)+1,gw,cw,cs⟩:Br)],Dh (MM++sl) (.slice r.q r.cs.length r.cap) r.cs:=by
     intro r hr;rcases uF.1 hr with hr|hr
     · exact X5 (hMM r hr) sl
     · rw [tq.1 hr];exact NZ (Tj hrl2 (by omega)) MM
    refine KT (s1:=MM) (s2:=sl) Wo Wo ?_;refine Zg<|Zm Y<|Zo Wh (Pa #[_,_] isAgg73 sizeOf73 Y) ?_;refine Ze (Ae (vs:=[_]) (cs:=[_,_]) underlying28 sizeOf73 zeroValue73 Y rfl rfl rfl rfl rfl) ?_;rintro _ _ ⟨gq,rfl,rfl⟩;refine Ze (BR (by_:=32) (sz:=2) underlying28 (rfl:Tryz.prog.info? 73=some Tryz.t73) rfl rfl rfl rfl Y (hro) Y (DY 2 gq 1 1 73 (0,0) [I4 ((rcs.length:Int)+1),.slice gw cs.length cw] rfl) Wo Wo (by simp [Value.oneCell']) (by omega) (by omega)) ?_;rintro _ _ ⟨sO,hrO,rfl⟩;have hro3:=BO hrO (n':=(rcs++[(⟨(rcs.length:Int)+1,gw,cw,cs⟩:Br)]).length) (xs':=Ej (rcs++[⟨(rcs.length:Int)+1,gw,cw,cs⟩])) (by rw [tK,tT]) (by rw [UG];rfl)
    obtain ⟨gO,cO,rfl⟩:=hrO.form;refine Za Y<|Z0<|A8<|Zx<|Zg<|Zm Y<|Ya (n:=1) Y Y<|Za Y<|Z0<|Zn [3,5,0,4] ?_;refine Ab (e':=[(3,_),(5,_)]) (by exact ⟨i+1,rcs++[⟨(rcs.length:Int)+1,gw,cw,cs⟩],_,_,sv2,sO,MM++sl,rfl,⟨by omega,hlog2,by rw [tK,tT];omega,hrw3,hro3,hMM3⟩,rfl,by rw [hpos3]⟩)
   exact absurd rfl he
  refine Za Y<|Z0<|Zn [0,3,4,5,16,17] ?_;refine Zx<|Zq<|Zg<|Zm Y<|Zv (C8 (n:=0) Y Y)<|Z0<|Zx ?_;refine Ao Y (fun he=>?_) (fun he=>?_)
  ·
   cases he
  refine AC<|A8<|Zx<|Zg<|Zm Y<|Ya (n:=1) Y Y<|Za Y<|Z0<|Zn [3,5,0,4] ?_;refine Ab (e':=[(3,_),(5,_)]) (by exact ⟨i+1,rcs,_,_,sv,so,MM,rfl,⟨by omega,hlog,by omega,hrw,hro,hMM⟩,rfl,rfl⟩)
 refine Ar<|Zt<|Zt<|AO<|Zx<|Zq<|KT (s1:=so) (s2:=MM) Wo Wo ?_;refine Zg<|Zm Y<|Za Y<|Z0<|Zx<|A9 ?_;refine AB rfl results105 Y (by exact ⟨rcs,_,hlog,by omega,Sg hro (by omega) hMM,rfl⟩)
end Go.Proofs.YtkdgffcfmgmemaaGreatDoor
