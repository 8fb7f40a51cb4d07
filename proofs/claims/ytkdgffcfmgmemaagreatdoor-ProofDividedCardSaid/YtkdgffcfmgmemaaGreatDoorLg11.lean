/- Records in plain words: a log that can be applied. -/
/- The reference of layer 4: Log. -/
import Derived.Test.YtkdgffcfmgmemaaGreatDoorEz
import Derived.Test.YtkdgffcfmgmemaaGreatDoorLg9
import Derived.Test.YtkdgffcfmgmemaaGreatDoorEx17
set_option linter.unusedVariables false
set_option linter.unusedSimpArgs false
namespace Go.Proofs.YtkdgffcfmgmemaaGreatDoor
open Go.Proofs.Tryz
open Go Go.RowKit Gw
set_option maxRecDepth 100000
attribute [local irreducible] Gw.At Gw.Nx Gw.Ops
structure Bq where
 p:Int
 q:Option Addr
 cap:Nat
 cs:List Chg
def Ep(l:List Bq):List Value:=l.flatMap (fun r=>[I4 r.p,.slice r.q r.cs.length r.cap])
def DW(M:List AU)(v:Value)(l:List Bq):Prop:=∃p cap,v= .slice p l.length cap∧(l.length≤maxLen∧l.length≤cap)∧∀(i:Nat) (r:Bq),l[i]?=some r→Dm M (.slice r.q r.cs.length r.cap) r.cs∧∃g off cur T zz,p=some ⟨g,off,none⟩∧(g,Obj.cells cur T zz)∈M∧off+i*2+2≤cur.size∧cur.extract (off+i*2) (off+i*2+2)=#[I4 r.p,.slice r.q r.cs.length r.cap]
def BU(l:List Bq):List AQ:=l.foldl (fun rs r=>DN rs r.cs) []
theorem FO(l:List Bq)(r:Bq):BU (l++[r])=DN (BU l) r.cs:=by unfold BU;rw [wW];rfl
def DY(l:List Bq):Prop:=∀(i:Nat) (r:Bq),l[i]?=some r→MQ (BU (l.take i)) (i:Int) r.p r.cs∧r.cs.length≤3
theorem Rb{rs:List AQ}{p rp:Int}{cs:List Chg}(hs:BJ rs)(h:MQ rs p rp cs):BJ (DN rs cs)∧(DN rs cs).length≤2000:=by
 have ha:=Ra h.ok.ord;obtain ⟨h1,_⟩:=K6 hs ha h.fit cs.length (uG _);have h2:=Mh hs ha h.fit cs.length (uG _)
 rw [ug]at h1 h2;exact ⟨h1,by have:=h.size;omega⟩
theorem DY.rows{l:List Bq}(h:DY l):∀i,i≤l.length→BJ (BU (l.take i))∧(BU (l.take i)).length≤2000
 |0,_=>⟨List.Pairwise.nil,uK _⟩
 |i+1,hi=>by
  obtain ⟨r,hr⟩:∃r,l[i]?=some r:=⟨_,tq (by omega)⟩;have ih:=DY.rows h i (by omega)
  rw [vW,hr];show BJ (BU (l.take i++[r]))∧_
  rw [show(some r).toList=[r] from rfl,FO];exact Rb ih.1 (h i r hr).1
theorem DY.all{l:List Bq}(h:DY l):BJ (BU l)∧(BU l).length≤2000:=by
 have:=h.rows l.length (uG _);rwa [ug]at this
theorem DY.snoc{l:List Bq}(h:DY l){r:Bq}(hr:MQ (BU l) (l.length:Int) r.p r.cs)(h3:r.cs.length≤3):DY (l++[r]):=by
 intro i x hx;rw [zT]at hx;split at hx
 · rename_i hi
   rw [vv (by omega)];exact h i x hx
 · rename_i hi
   have hlt:=(tu.1 hx).1;simp only [uH]at hlt;have e:i=l.length:=by omega
   subst e;rw [y8]at hx;injection hx with hx
   subst hx;rw [vG rfl];exact ⟨hr,h3⟩
theorem Gh:∀(cs:List Chg),(Cs cs).length=cs.length*10
 |[]=>rfl
 |c::cs=>by
  have:=Gh cs;unfold Cs at*;rw [vE,u6,this,uJ];simp;omega
theorem Ij(a b:List Chg):Cs (a++b)=Cs a++Cs b:=by unfold Cs;rw [wG]
theorem SG(cs:List Chg)(k:Nat):(Cs cs).take (k*10)=Cs (cs.take k):=by
 rcases uU cs.length k with h|h
 · rw [uf (by rw [Gh];omega),uf (by omega)]
 · have e:Cs cs=Cs (cs.take k)++Cs (cs.drop k):=by rw [←Ij,uw]
   rw [e,vG (by rw [Gh,uD];omega)]
theorem SH(cs:List Chg)(k:Nat):(Cs cs).drop (k*10)=Cs (cs.drop k):=by
 rcases uU cs.length k with h|h
 · rw [vU (by rw [Gh];omega),vU (by omega)];rfl
 · have e:Cs cs=Cs (cs.take k)++Cs (cs.drop k):=by rw [←Ij,uw]
   rw [e,xL (by rw [Gh,uD];omega)]
theorem V7(cs:List Chg):∀u∈Cs cs,u.oneCell'=true:=by
 intro u hu;unfold Cs at hu;obtain ⟨r,_,h⟩:=xY.1 hu;simp only [uV,wC,or_false]at h;rcases h with rfl|rfl|rfl|rfl|rfl|rfl|rfl|rfl|rfl|rfl<;>rfl
theorem l7{cur:Array Value}{cs:List Chg}{j:Nat}{y:Chg}(h:CB cur 0 (Cs cs))(hy:cs[j]?=some y):cur[j*10]?=some (I4 y.t)∧cur[j*10+1]?=some (I4 y.k):=by
 have h1:=Gb (fun c:Chg=>[I4 c.t,I4 c.k,.bool c.had,I4 c.o.a,I4 c.o.b,I4 c.o.c,.bool c.has,I4 c.n.a,I4 c.n.b,I4 c.n.c]) 10 (fun _=>rfl) cs j y hy;have e:∀q,((Cs cs).drop (j*10)).take 10=[I4 y.t,I4 y.k,.bool y.had,I4 y.o.a,I4 y.o.b,I4 y.o.c,.bool y.has,I4 y.n.a,I4 y.n.b,I4 y.n.c]→q<10→(Cs cs)[j*10+q]?=([I4 y.t,I4 y.k,.bool y.had,I4 y.o.a,I4 y.o.b,I4 y.o.c,.bool y.has,I4 y.n.a,I4 y.n.b,I4 y.n.c]:List Value)[q]?:=fun q h9 hq=>by
  rw [←h9,uz,if_pos hq,vK]
 have a0:=h.get (j*10+0) _ ((e 0 h1 (by omega)).trans rfl);have a1:=h.get (j*10+1) _ ((e 1 h1 (by omega)).trans rfl)
 rw [uX]at a0 a1;exact ⟨a0,a1⟩
theorem XK{M:List AU}{v:Value}{cs:List Chg}(h:Dm M v cs)(s:List AU):Dm (M++s) v cs:=by
 obtain ⟨p,cap,hv,hl,hg⟩:=h;refine ⟨p,cap,hv,hl,fun i c hc=>?_⟩;obtain ⟨g,off,cur,T,zz,h1,h2,h3⟩:=hg i c hc;exact ⟨g,off,cur,T,zz,h1,uZ _ h2,h3⟩
theorem Nl{M:List AU}{v:Value}{cs:List Chg}(h:Dm M v cs)(s:List AU):Dm (s++M) v cs:=by
 obtain ⟨p,cap,hv,hl,hg⟩:=h;refine ⟨p,cap,hv,hl,fun i c hc=>?_⟩;obtain ⟨g,off,cur,T,zz,h1,h2,h3⟩:=hg i c hc;exact ⟨g,off,cur,T,zz,h1,uN _ h2,h3⟩
def Nw(M:List AU)(v:Value)(xs:List (List Int)):Prop:=∃p cap,v= .slice p xs.length cap∧(xs.length≤maxLen∧xs.length≤cap)∧∀(i:Nat) (z:List Int),xs[i]?=some z→z.length=6∧(∀n∈z,-9223372036854775808≤n∧n≤9223372036854775807)∧∃g off cur T zz,p=some ⟨g,off,none⟩∧(g,Obj.cells cur T zz)∈M∧∀(j:Nat) (n:Int),z[j]?=some n→cur[off+i*6+j]?=some (I4 n)
theorem TC{v:Value}{l:List Bq}{s MM:List AU}(h:BZ 2 73 v l.length (Ep l) s)(hn:l.length≤maxLen)(hM:∀r∈l,Dm MM (.slice r.q r.cs.length r.cap) r.cs):DW (s++MM) v l:=by
 obtain ⟨b,cap,rfl⟩:=h.form;refine ⟨b,cap,rfl,⟨hn,FL h⟩,fun i r hr=>⟨Nl (hM r (uI hr)) s,?_⟩⟩;obtain ⟨g,cap',cur,z,hv,rfl,hsz,hex⟩:=Hu h i (tu.1 hr).1;injection hv with hv1 hv2 hv3
 refine ⟨g,0,cur,73,z,hv1,uZ _ (uL.2 rfl),by omega,?_⟩;rw [uX];apply wN.1;rw [hex];exact Gb _ 2 (fun _=>rfl) l i r hr
theorem Ua(a b:List Bq):Ep (a++b)=Ep a++Ep b:=by unfold Ep;rw [wG]
theorem iZ:CQ Tryz.prog 47 #[] [] (fun r H'=>∃sp,r=I5 sp∧H'=[[(sp,.cells #[.slice none 0 0,I4 0] 182 (0,0))]]):=by
 refine Se func47 ntmps47 [] ?_;intro u R;refine Zq<|Zg<|Za Y<|Z0<|Zx<|Zq<|Zg<|Zv (BL (vs:=[]) (cs:=#[_,_]) Y (Ab (pl:=#[(0,1),(1,1)]) zeroValue182 underlying182 (fun _=>by kernel_rfl) rfl)) ?_;refine Ze (Bx #[_,_]) ?_;rintro _ _ ⟨sp,rfl,rfl⟩;refine Za Y<|Z0<|Zx<|AA ?_;refine AJ rfl results47 Y (by exact ⟨sp,rfl,rfl⟩)
theorem pX{M:List AU}{v:Value}{xs:List (List Int)}(hX:Nw M v xs)(hx:xs.length≤1000):CQ Tryz.prog 105 #[v] [M] (fun r H'=>∃(l:List Bq) (s:List AU),DY l∧l.length≤xs.length∧DW s r l∧H'=[s,M]):=by
 have hml:=mL;obtain ⟨px,capx,rfl,hxl,hgx⟩:=id hX;refine Se func105 ntmps105 [0] ?_;intro u R;refine Zq<|Zg<|Za Y<|Z0<|Zx<|Zq<|Zg<|Za Y<|Z0<|Zx<|Zq<|Zg<|Zc [] Y call47 Y rfl (iZ) ?_;rintro _ _ ⟨_,⟨sp,rfl,rfl⟩,rfl⟩;refine Za Y<|Z0<|Zx<|Zq<|Zq<|Zg<|Za Y<|Z0<|Zx<|AR<|Bf ?_;refine Bf ?_;refine Bf ?_;refine Zb [3,5,0,4] ?_;refine BB (e0:=[(3,_),(5,_)]) (fun m e H=>∃(i:Nat) (rcs:List Bq) (w wo:Value) (sv so MM:List AU),m=xs.length -i∧(i≤xs.length∧DY rcs∧rcs.length≤i∧BZ 5 113 w (BU rcs).length (Ae (BU rcs)) sv∧BZ 2 73 wo rcs.length (Ep rcs) so∧(∀r∈rcs,Dm MM (.slice r.q r.cs.length r.cap) r.cs))∧e=[(3,wo),(5,I4 (i:Int))]∧H=[[(sp,.cells #[w,I4 (rcs.length:Int)] 182 (0,0))],sv,so,MM]) (by exact ⟨0,[],.slice none 0 0,.slice none 0 0,[],[],[],rfl,⟨uK _,(by intro i r h;cases h),uG _,Ba 5 _,Ba 2 _,by simp⟩,rfl,rfl⟩) Wp ?_;rintro _ _ _ ⟨i,rcs,w,wo,sv,so,MM,rfl,⟨hi,hlog,hrl,hrw,hro,hMM⟩,rfl,rfl⟩;obtain ⟨qw,capw,rfl⟩:=hrw.form;obtain ⟨qo,capo,rfl⟩:=hro.form;obtain ⟨hsr,hr2⟩:=hlog.all;have hRW:=Jo hrw (by omega)
 refine Zq<|Zq<|Zg<|Zm Y<|Zm Y<|Zv (AV underlying22 Y)<|Zv (Av Y Y)<|Z0<|Zx ?_;refine Aq Y (fun hlt=>?_) (fun hlt=>?_)
 ·
  obtain ⟨z,hz0⟩:∃z,xs[i]?=some z:=⟨_,tq hlt⟩;obtain ⟨h6,hrng,g,off,cur,T,zz,rfl,hm,hcx⟩:=hgx i z hz0;refine AB<|Zx<|Zq<|AR<|Zq<|Zg<|Za Y<|Z0<|Zx<|Zq<|Zq<|Zg<|Za Y<|Z0<|Zx<|AR<|Bf ?_;refine Zb [6,7,0,3,4,5] ?_;refine BB (e0:=[(6,_),(7,_)]) (fun m e H=>∃(k:Nat) (w2:Value) (cs:List Chg) (sl:List AU),m=3 -k∧(k≤3∧cs.length≤k∧BZ 10 77 w2 cs.length (Cs cs) sl)∧e=[(6,w2),(7,I4 (k:Int))]∧H=[sl]) (by exact ⟨0,.slice none 0 0,[],[],rfl,⟨uK _,uG _,Ba 10 _⟩,rfl,rfl⟩) Wp ?_;rintro _ _ _ ⟨k,w2,cs,sl,rfl,⟨hk3,hck,hrl2⟩,rfl,rfl⟩;obtain ⟨gw,cw,rfl⟩:=hrl2.form;have hcw:=FL hrl2
  refine Zq<|Zq<|Zg<|Zm Y<|Zv (Av (n:=3) Y Y)<|Z0<|Zx ?_;refine Aq Y (fun hk=>?_) (fun hk=>?_)
  ·
   obtain ⟨za,hza⟩:∃n,z[2*k]?=some n:=⟨_,tq (by omega)⟩;obtain ⟨zb,hzb⟩:∃n,z[2*k+1]?=some n:=⟨_,tq (by omega)⟩;have hra:=hrng za (uI hza)
   have hrb:=hrng zb (uI hzb);have hca:=hcx _ _ hza
   have hcb:=hcx _ _ hzb;refine AB<|Zx<|Zq<|AR<|Zq<|Zg<|Zm Y<|Zm Y<|Zm Y ?_;refine BO (DF (m:=2) Y Y (by omega)) ?_;refine BO (Ac underlying22 sizeOf217 Y Y (by omega)) ?_;refine BO (CY underlying217 sizeOf3 Y Y (by omega)) ?_;refine Cm (cs:=[(g,.cells cur T zz)]) (by simp [hm]) (Bh isAgg3 Y (by first|exact hca|(rw [xB];exact hca))) rfl rfl ?_;refine Za Y<|Z0<|Zx<|Zb [8,0,3,4,5,6,7] ?_;refine CU (e0:=[(8,_)]) (H0:=[]) (fun e H=>∃(n:Nat),(n≤9223372036854775807)∧e=[(8,I4 (n:Int))]∧H=[]) Wp ?hx_3 ?hy_3
   case hx_3=>
    refine Zq<|Zg<|Zm Y<|Zv (Eg Y Y)<|Z0<|Zx ?_;refine Aq Y (fun hna=>?_) (fun hna=>?_)
    ·
     refine Zg<|Zm Y<|Yi Y Y ?_
     (refine BO (Tc Y (IntWalk.i64_in _ ?_)) ?_;(focus (omega)))
     refine Za Y<|Z0<|Zn [8,0,3,4,5,6,7] ?_;refine BA (e':=[(8,_)]) (by exact ⟨(-(za+1)).toNat,by omega,by rw [show(((-(za+1)).toNat:Nat):Int)=0 -(za+1) by omega],rfl⟩)
    refine AB<|Zn [8,0,3,4,5,6,7] ?_;refine BA (e':=[(8,_)]) (by exact ⟨za.toNat,by omega,by rw [show((za.toNat:Nat):Int)=za by omega],rfl⟩)
   rintro _ _ ⟨n,hn,rfl,rfl⟩;refine Zq<|Zg<|Zm Y<|Zm Y<|Zm Y ?_;refine BO (DF (m:=2) Y Y (by omega)) ?_;refine Ya (n:=1) Y Y ?_;refine BO (Ac underlying22 sizeOf217 Y Y (by omega)) ?_;refine BO (CY underlying217 sizeOf3 Y Y (by omega)) ?_;refine Cm (cs:=[(g,.cells cur T zz)]) (by simp [hm]) (Bh isAgg3 Y (by first|exact hcb|(rw [xB];exact hcb))) rfl rfl ?_;refine Za Y<|Z0<|Zx<|Zb [9,0,3,4,5,6,7,8] ?_;refine CU (e0:=[(9,_)]) (H0:=[]) (fun e H=>∃(m:Nat),(m≤9223372036854775807)∧e=[(9,I4 (m:Int))]∧H=[]) Wp ?hx_6 ?hy_6
   case hx_6=>
    refine Zq<|Zg<|Zm Y<|Zv (Eg Y Y)<|Z0<|Zx ?_;refine Aq Y (fun hnb=>?_) (fun hnb=>?_)
    ·
     refine Zg<|Zm Y<|Yi Y Y ?_
     (refine BO (Tc Y (IntWalk.i64_in _ ?_)) ?_;(focus (omega)))
     refine Za Y<|Z0<|Zn [9,0,3,4,5,6,7,8] ?_;refine BA (e':=[(9,_)]) (by exact ⟨(-(zb+1)).toNat,by omega,by rw [show(((-(zb+1)).toNat:Nat):Int)=0 -(zb+1) by omega],rfl⟩)
    refine AB<|Zn [9,0,3,4,5,6,7,8] ?_;refine BA (e':=[(9,_)]) (by exact ⟨zb.toNat,by omega,by rw [show((zb.toNat:Nat):Int)=zb by omega],rfl⟩)
   rintro _ _ ⟨m,hm9,rfl,rfl⟩;refine Zq<|Zg<|Zm Y ?_;refine BO (Et (n:=3) Y Y (by omega)) ?_;refine Zm Y ?_
   (refine BO (Ju (n:=3) Y Y ?_ ?_) ?_;(focus (omega));(focus (omega)))
   refine BO (Et (n:=9) Y Y (by omega)) ?_;refine Ya (m:=1) Y Y<|Zv (BL (vs:=[(0,_),(1,_)]) (cs:=#[_,_,_,_,_,_,_,_,_,_]) Y (Ab (pl:=#[(0,1),(1,1),(2,1),(3,3),(6,1),(7,3)]) zeroValue77 underlying77 (fun _=>by kernel_rfl) rfl)) ?_;refine Ze (Al zeroValue77 #[_,_,_,_,_,_,_,_,_,_]) ?_;rintro _ _ ⟨cb,rfl,rfl⟩;refine Xe (BQ sizeOf77 Y Y (by(simp [Value.oneCell',Value.cells];done)) Wu (by exact (rfl:_=(#[I4 ((n%3:Nat):Int),I4 ((1+n/3%9:Nat):Int),.bool false,I4 0,I4 0,I4 0,.bool false,I4 0,I4 0,I4 0]:Array Value))) (by first|rfl|(simp;done)) (by exact uG _) (by exact BS _)) ?_;refine Z0<|Zx<|Zq<|Zg<|Zm Y<|Zh 0 underlying77 rfl rfl sizeOf3 Y<|Zl isAgg3 Y ?_;refine Zh 1 underlying77 rfl rfl sizeOf3 Y<|Zl isAgg3 Y ?_;refine Xr [_,_,_] Y call110 Y rfl (ic sp qw capw (rcs.length:Int) ((n%3:Nat):Int) ((1+n/3%9:Nat):Int) (BU rcs) sv hRW (by omega) hsr) ?_;obtain ⟨gr,hgr⟩:∃gr,gr=Fe (BU rcs) ((n%3:Nat):Int) ((1+n/3%9:Nat):Int):=⟨_,rfl⟩;rw [←hgr];refine Zm Y<|Zd Y rfl<|Zd Y rfl<|Ze (Al zeroValue113 #[_,_,_,_,_]) ?_;rintro _ _ ⟨ob,rfl,rfl⟩;refine Xe (Xw sizeOf113 #[I4 gr.1.t,I4 gr.1.k,I4 gr.1.v.a,I4 gr.1.v.b,I4 gr.1.v.c]) ?_;refine Za Y<|Z0<|Zn [0,3,4,5,6,7,8,9,10,11,12] ?_;refine Zx<|Zq<|Zg<|Zm Y<|Zh 2 underlying77 rfl rfl sizeOf4 Y<|Xe (Zs sizeOf4 Y Y rfl (hc:=by exact (rfl:_=(#[I4 ((n%3:Nat):Int),I4 ((1+n/3%9:Nat):Int),.bool gr.2,I4 0,I4 0,I4 0,.bool false,I4 0,I4 0,I4 0]:Array Value))) (hi:=by(simp;done))) ?_;refine Z0<|Zx<|Zq<|Zg<|Zh 2 underlying113 rfl rfl sizeOf75 Y<|Zo Wh (Pa #[_,_,_] isAgg75 sizeOf75 Y) ?_;refine Zh 3 underlying77 rfl rfl sizeOf75 Y<|Xe (BQ sizeOf75 Y Y (by(simp [Value.oneCell'];done)) Wu (by exact (rfl:_=(#[I4 ((n%3:Nat):Int),I4 ((1+n/3%9:Nat):Int),.bool gr.2,I4 gr.1.v.a,I4 gr.1.v.b,I4 gr.1.v.c,.bool false,I4 0,I4 0,I4 0]:Array Value))) (by first|rfl|(simp;done)) (by(simp;done)) (by exact BS _)) ?_;refine Z0<|Zx<|Zb [12,0,3,4,5,6,7,8,9,10] ?_
   refine CU (e0:=[(12,_)]) (H0:=[[(cb,.cells #[I4 ((n%3:Nat):Int),I4 ((1+n/3%9:Nat):Int),.bool gr.2,I4 gr.1.v.a,I4 gr.1.v.b,I4 gr.1.v.c,.bool false,I4 0,I4 0,I4 0] 77 (0,0))]]) (fun e H=>∃(hb:Bool),(True)∧e=[]∧H=[[(cb,.cells #[I4 ((n%3:Nat):Int),I4 ((1+n/3%9:Nat):Int),.bool gr.2,I4 gr.1.v.a,I4 gr.1.v.b,I4 gr.1.v.c,.bool hb,I4 0,I4 0,I4 0] 77 (0,0))]]) Wp ?hx_9 ?hy_9
   case hx_9=>
    refine Zg<|Zm Y<|Zv (Cg Y)<|Zm Y ?_;refine Ak (t:=77) Y rfl (fun hh=>?_) (fun hh=>?_)
    ·
     refine A7 Y rfl<|A7 Y rfl<|A7 Y rfl<|Zv (AO Y Y)<|Zh 6 underlying77 rfl rfl sizeOf4 Y<|Xe (Zs sizeOf4 Y Y rfl (hi:=by(simp;done))) ?_;refine Z0<|Zn [0,3,4,5,6,7,8,9,10] ?_;refine BA (e':=[]) (H':=[[(cb,.cells #[_,_,_,_,_,_,_,_,_,_] 77 (0,0))]]) ?_;exact ⟨_,trivial,rfl,rfl⟩
    refine Zf Y Y ?_
    (refine Fg Y (Et (n:=4) Y Y ?_) rfl rfl ?_;(focus (omega)))
    refine Yg (DU (n:=0) Y Y)<|Zv (AC Y Y)<|Zh 6 underlying77 rfl rfl sizeOf4 Y<|Xe (Zs sizeOf4 Y Y rfl (hi:=by(simp;done))) ?_;refine Z0<|Zn [0,3,4,5,6,7,8,9,10] ?_;refine BA (e':=[]) (H':=[[(cb,.cells #[_,_,_,_,_,_,_,_,_,_] 77 (0,0))]]) ?_;exact ⟨_,trivial,rfl,rfl⟩
   rintro _ _ ⟨hb,_,rfl,rfl⟩;refine Zb [9,0,3,4,5,6,7,8,10] ?_;refine CU (e0:=[(9,_)]) (H0:=[[(cb,.cells #[I4 ((n%3:Nat):Int),I4 ((1+n/3%9:Nat):Int),.bool gr.2,I4 gr.1.v.a,I4 gr.1.v.b,I4 gr.1.v.c,.bool hb,I4 0,I4 0,I4 0] 77 (0,0))]]) (fun e H=>∃(c:Chg),(True)∧e=[]∧H=[[(cb,.cells #[I4 c.t,I4 c.k,.bool c.had,I4 c.o.a,I4 c.o.b,I4 c.o.c,.bool c.has,I4 c.n.a,I4 c.n.b,I4 c.n.c] 77 (0,0))]]) Wp ?hx_10 ?hy_10
   case hx_10=>
    refine Zq<|Zg<|Zh 6 underlying77 rfl rfl sizeOf4 Y<|Zl isAgg4 Y ?_;refine Z0<|Zx ?_;refine Ag Y (fun hhb=>?_) (fun hhb=>?_)
    ·
     refine Zg<|Zm Y ?_
     (refine BO (Ju (n:=4) Y Y ?_ ?_) ?_;(focus (omega));(focus (omega)))
     refine BO (Et (n:=10) Y Y (by omega)) ?_;refine Zm Y ?_
     (refine BO (Ju (n:=40) Y Y ?_ ?_) ?_;(focus (omega));(focus (omega)))
     refine BO (Et (n:=9) Y Y (by omega)) ?_;refine Ya (m:=1) Y Y<|Zm Y ?_
     (refine BO (Ju (n:=400) Y Y ?_ ?_) ?_;(focus (omega));(focus (omega)))
     refine BO (Et (n:=40) Y Y (by omega)) ?_
     (refine BO (GM Y Y (IntWalk.i64_in _ ?_)) ?_;(focus (omega)))
     refine Zv (BL (vs:=[(0,_),(1,_),(2,_)]) (cs:=#[_,_,_]) Y (Cr zeroValue75 underlying75 sizeOf3 rfl)) ?_;refine Zh 7 underlying77 rfl rfl sizeOf75 Y<|Xe (BQ sizeOf75 Y Y (by(simp [Value.oneCell',Value.cells];done)) Wu (by rfl) (by first|rfl|(simp;done)) (by exact uG _) (by exact BS _)) ?_;refine Z0<|Zn [0,3,4,5,6,7,8,10] ?_;refine BA (e':=[]) (H':=[[(cb,.cells #[_,_,_,_,_,_,_,_,_,_] 77 (0,0))]]) ?_;exact ⟨⟨_,_,_,gr.1.v,_,⟨_,_,_⟩⟩,trivial,rfl,rfl⟩
    refine AB<|Zn [0,3,4,5,6,7,8,10] ?_;refine BA (e':=[]) (H':=[[(cb,.cells #[_,_,_,_,_,_,_,_,_,_] 77 (0,0))]]) ?_;exact ⟨⟨_,_,_,gr.1.v,_,⟨_,_,_⟩⟩,trivial,rfl,rfl⟩
   rintro _ _ ⟨c,_,rfl,rfl⟩;refine Zq<|Zg<|Za Y<|Z0<|Zx<|Zq<|Zq<|Zg<|Za Y<|Z0<|Zx<|AR<|Zb [13,14,0,3,4,5,6,7,8,10] ?_;refine BB (e0:=[(13,_),(14,_)]) (fun m e H=>∃(j:Nat) (b:Bool),m=cs.length -j∧(j≤cs.length)∧e=[(13,.bool b),(14,I4 (j:Int))]∧H=[]) (by exact ⟨0,false,rfl,uK _,rfl,rfl⟩) Wp ?_;rintro _ _ _ ⟨j,b,rfl,hj,rfl,rfl⟩;refine Zq<|Zq<|Zg<|Zm Y<|Zm Y<|Zv (AV underlying71 Y)<|Zv (Av Y Y)<|Z0<|Zx ?_;refine Aq Y (fun hjl=>?_) (fun hjl=>?_)
   ·
    refine AB<|Zx<|Zq<|AR ?_;obtain ⟨y,hy⟩:∃y,cs[j]?=some y:=⟨_,tq hjl⟩;obtain ⟨gl,capl,curl,zl,hvl,hsl,hlel,hinl⟩:=Di hrl2 (by omega);injection hvl with hv1 hv2 hv3
    subst hv1 hsl;obtain ⟨hy0,hy1⟩:=l7 hinl hy;refine BK (n:=22) (0::1::3::3::15::31::63::3::131::511::1023::2047::2047::8191::16383::32767::2047::67583::262143::524287::1048575::2097151::[]) 0 (by kernel_rfl) (by kernel_rfl) rfl ?_;refine Zi 1 0 rfl (AL Y)<|Zi 3 1 rfl (AL Y) ?_;refine Cc (t:=105) Y (fun hgk=>?_) (fun hgk=>?_)
    ·
     first|rw [decide_eq_true hgk]|rw [hgk]|skip
     refine Yk 7 2 rfl<|Yk 15 3 rfl<|Yk 31 4 rfl<|Yk 63 5 rfl<|Yk 127 6 rfl<|Yk 255 7 rfl<|Yk 511 8 rfl<|Yk 1023 9 rfl<|Yk 2047 10 rfl<|Yk 4095 11 rfl<|Yk 8191 12 rfl<|Yk 16383 13 rfl<|Yk 32767 14 rfl<|Yk 65535 15 rfl<|Yk 131071 16 rfl<|Yk 262143 17 rfl<|Yk 524287 18 rfl<|Yk 1048575 19 rfl<|Zi 2097151 20 rfl (AO Y Y)<|Zi 4194303 21 rfl (Au Y)<|Ao ?_;refine Zn [0,3,4,5,6,7,8,10,13,14] ?_;refine A8<|Zx<|Zg<|Zm Y<|Ya (n:=1) Y Y<|Za Y<|Z0<|Zn [13,14,0,3,4,5,6,7,8,10] ?_;refine Aa (e':=[(13,_),(14,_)]) (by exact ⟨j+1,_,rfl,by omega,rfl,rfl⟩)
    first|rw [decide_eq_false hgk]|rw [hgk]|skip
    refine Ai (D':=7) 2 Y rfl rfl rfl (AL Y) ?_;refine Ai (D':=15) 3 Y rfl rfl rfl (AL Y) ?_;refine Ai (D':=31) 4 Y rfl rfl rfl (Ac underlying71 sizeOf77 Y Y (by omega)) ?_;refine Ai (D':=63) 5 Y rfl rfl rfl (BI (off:=0) underlying77 rfl rfl sizeOf3 Y) ?_;refine Bn (D':=127) 6 Y rfl rfl rfl Wh (Bh isAgg3 Y (by simpa using hy0)) ?_;refine Ai (D':=255) 7 Y rfl rfl rfl (AY (off:=0) underlying77 rfl rfl sizeOf3 Y) ?_;refine Bn (D':=511) 8 Y rfl rfl rfl Wh (Bh isAgg3 Y (by rfl)) ?_;refine Ai (D':=1023) 9 Y rfl rfl rfl (CO Y Y) ?_;refine Ai (D':=2047) 10 Y rfl rfl rfl (AL Y) ?_;refine CZ (t:=114) Y (fun hgk=>?_) (fun hgk=>?_)
    ·
     first|rw [decide_eq_true hgk]|rw [hgk]|skip
     refine Ai (D':=4095) 11 Y rfl rfl rfl (AL Y) ?_;refine Ai (D':=8191) 12 Y rfl rfl rfl (AL Y) ?_;refine Ai (D':=16383) 13 Y rfl rfl rfl (Ac underlying71 sizeOf77 Y Y (by omega)) ?_;refine Ai (D':=32767) 14 Y rfl rfl rfl (BI (off:=1) underlying77 rfl rfl sizeOf3 Y) ?_;refine Bn (D':=65535) 15 Y rfl rfl rfl Wh (Bh isAgg3 Y (by simpa using hy1)) ?_;refine Ai (D':=131071) 16 Y rfl rfl rfl (AY (off:=1) underlying77 rfl rfl sizeOf3 Y) ?_;refine Bn (D':=262143) 17 Y rfl rfl rfl Wh (Bh isAgg3 Y (by rfl)) ?_;refine Ai (D':=524287) 18 Y rfl rfl rfl (CO Y Y) ?_;refine Ai (D':=1048575) 19 Y rfl rfl rfl (AO Y Y) ?_;refine Zi 2097151 20 rfl (AC Y Y)<|Zi 4194303 21 rfl (Au Y)<|Ao ?_;refine Zn [0,3,4,5,6,7,8,10,13,14] ?_;refine A8<|Zx<|Zg<|Zm Y<|Ya (n:=1) Y Y<|Za Y<|Z0<|Zn [13,14,0,3,4,5,6,7,8,10] ?_;refine Aa (e':=[(13,_),(14,_)]) (by exact ⟨j+1,_,rfl,by omega,rfl,rfl⟩)
    first|rw [decide_eq_false hgk]|rw [hgk]|skip
    refine Yk 4095 11 rfl<|Yk 8191 12 rfl<|Yk 16383 13 rfl<|Yk 32767 14 rfl<|Yk 65535 15 rfl<|Yk 131071 16 rfl<|Yk 262143 17 rfl<|Yk 524287 18 rfl<|Ai (D':=1048575) 19 Y rfl rfl rfl (AC Y Y) ?_;refine Zi 2097151 20 rfl (AC Y Y)<|Zi 4194303 21 rfl (Au Y)<|Ao ?_;refine Zn [0,3,4,5,6,7,8,10,13,14] ?_;refine A8<|Zx<|Zg<|Zm Y<|Ya (n:=1) Y Y<|Za Y<|Z0<|Zn [13,14,0,3,4,5,6,7,8,10] ?_;refine Aa (e':=[(13,_),(14,_)]) (by exact ⟨j+1,_,rfl,by omega,rfl,rfl⟩)
   refine Aw<|Zt<|Zt<|AP<|Zx<|Zb [8,13,0,3,4,5,6,7,10] ?_;refine CU (e0:=[(8,_),(13,_)]) (H0:=[]) (fun e H=>(True)∧e=[]∧H=[]) Wp ?hx_15 ?hy_15
   case hx_15=>
    refine Zq<|Zg<|Zm Y<|Zm Y ?_;refine Ak (t:=126) Y rfl (fun hgd=>?_) (fun hgd=>?_)
    ·
     refine A7 Y rfl<|A7 Y rfl<|A7 Y rfl<|A7 Y rfl<|A7 Y rfl<|A7 Y rfl<|A7 Y rfl<|A7 Y rfl<|A7 Y rfl<|A7 Y rfl<|A7 Y rfl<|A7 Y rfl<|A7 Y rfl<|Zv (AO Y Y)<|Zm Y<|A7 Y rfl<|A7 Y rfl<|A7 Y rfl<|A7 Y rfl<|A7 Y rfl<|A7 Y rfl<|A7 Y rfl<|Zv (AO Y Y)<|Z0 ?_;refine Zn [0,3,4,5,6,7,10,149] ?_;refine Zx<|CP Y<|Aw<|Zt<|AP<|Zx<|Zg<|Zm Y<|Ya (n:=1) Y Y<|Za Y<|Z0<|Zn [6,7,0,3,4,5] ?_;refine Aa (e':=[(6,_),(7,_)]) (by exact ⟨k+1,_,cs,sl,rfl,⟨by omega,by omega,hrl2⟩,rfl,rfl⟩)
    refine Yf 2 underlying77 rfl rfl sizeOf4 Y<|Yl isAgg4 Y ?_;refine Zf Y Y ?_;refine Ak (t:=129) Y rfl (fun hgd=>?_) (fun hgd=>?_)
    ·
     refine Yf 6 underlying77 rfl rfl sizeOf4 Y<|Yl isAgg4 Y ?_;refine Yg (AO Y Y)<|Zf Y Y ?_;refine Ak (t:=133) Y rfl (fun hgd=>?_) (fun hgd=>?_)
     ·
      refine Yf 3 underlying77 rfl rfl sizeOf75 Y<|D8 Y Wh (AZ (cs:=#[_,_,_]) isAgg75 sizeOf75 Y (by(simp;done)) (by rfl)) rfl rfl ?_;refine Yf 7 underlying77 rfl rfl sizeOf75 Y<|D8 Y Wh (Pa #[_,_,_] isAgg75 sizeOf75 Y) rfl rfl ?_;refine Yg (KO (by kernel_rfl) underlying75 underlying3 isAgg3 sizeOf3 Y Y) ?_;refine Yg (AO Y Y)<|Zv (AC Y Y)<|Zm Y ?_;refine Aj (t:=141) Y rfl (fun hgd=>?_) (fun hgd=>?_)
      ·
       refine A7 Y rfl<|A7 Y rfl<|A7 Y rfl<|A7 Y rfl<|A7 Y rfl<|A7 Y rfl<|A7 Y rfl<|Zv (AO Y Y)<|Z0<|Zn [0,3,4,5,6,7,10,149] ?_;refine Zx<|CP Y<|Aw<|Zt<|AP<|Zx<|Zg<|Zm Y<|Ya (n:=1) Y Y<|Za Y<|Z0<|Zn [6,7,0,3,4,5] ?_;refine Aa (e':=[(6,_),(7,_)]) (by exact ⟨k+1,_,cs,sl,rfl,⟨by omega,by omega,hrl2⟩,rfl,rfl⟩)
      refine Zf Y Y<|Yg (DU (n:=0) Y Y)<|Zf Y Y ?_;refine Aj (t:=144) Y rfl (fun hgd=>?_) (fun hgd=>?_)
      ·
       refine Zf Y Y ?_
       (refine Fg Y (Et (n:=5) Y Y ?_) rfl rfl ?_;(focus (omega)))
       refine Yg (CF (n:=0) Y Y)<|Yg (AO Y Y)<|Zv (AC Y Y)<|Z0<|Zn [0,3,4,5,6,7,10,149] ?_;refine Zx ?_;refine Aq Y (fun hgi=>?_) (fun hgi=>?_)
       ·
        refine Aw<|Zt<|AP<|Zx<|Zg<|Zm Y<|Ya (n:=1) Y Y<|Za Y<|Z0<|Zn [6,7,0,3,4,5] ?_;refine Aa (e':=[(6,_),(7,_)]) (by exact ⟨k+1,_,cs,sl,rfl,⟨by omega,by omega,hrl2⟩,rfl,rfl⟩)
       refine AB<|Zn [0,3,4,5,6,7,10] ?_;refine BA (e':=[]) (by exact ⟨trivial,rfl,rfl⟩)
      refine A7 Y rfl<|A7 Y rfl<|A7 Y rfl<|Yg (AC Y Y)<|Zv (AC Y Y)<|Z0<|Zn [0,3,4,5,6,7,10,149] ?_;refine Zx<|Dn Y<|AB<|Zn [0,3,4,5,6,7,10] ?_;refine BA (e':=[]) (by exact ⟨trivial,rfl,rfl⟩)
     refine A7 Y rfl<|A7 Y rfl<|A7 Y rfl<|A7 Y rfl<|A7 Y rfl<|Yg (AC Y Y)<|Zv (AC Y Y)<|Zm Y<|Zf Y Y<|Yg (DU (n:=0) Y Y)<|Zf Y Y ?_;refine Aj (t:=144) Y rfl (fun hgd=>?_) (fun hgd=>?_)
     ·
      refine Zf Y Y ?_
      (refine Fg Y (Et (n:=5) Y Y ?_) rfl rfl ?_;(focus (omega)))
      refine Yg (CF (n:=0) Y Y)<|Yg (AO Y Y)<|Zv (AC Y Y)<|Z0<|Zn [0,3,4,5,6,7,10,149] ?_;refine Zx ?_;refine Aq Y (fun hgi=>?_) (fun hgi=>?_)
      ·
       refine Aw<|Zt<|AP<|Zx<|Zg<|Zm Y<|Ya (n:=1) Y Y<|Za Y<|Z0<|Zn [6,7,0,3,4,5] ?_;refine Aa (e':=[(6,_),(7,_)]) (by exact ⟨k+1,_,cs,sl,rfl,⟨by omega,by omega,hrl2⟩,rfl,rfl⟩)
      refine AB<|Zn [0,3,4,5,6,7,10] ?_;refine BA (e':=[]) (by exact ⟨trivial,rfl,rfl⟩)
     refine A7 Y rfl<|A7 Y rfl<|A7 Y rfl<|Yg (AC Y Y)<|Zv (AC Y Y)<|Z0<|Zn [0,3,4,5,6,7,10,149] ?_;refine Zx<|Dn Y<|AB<|Zn [0,3,4,5,6,7,10] ?_;refine BA (e':=[]) (by exact ⟨trivial,rfl,rfl⟩)
    refine A7 Y rfl<|A7 Y rfl<|Yg (AC Y Y)<|Zf Y Y<|A7 Y rfl<|A7 Y rfl<|A7 Y rfl<|A7 Y rfl<|A7 Y rfl<|Yg (AC Y Y)<|Zv (AC Y Y)<|Zm Y<|Zf Y Y<|Yg (DU (n:=0) Y Y)<|Zf Y Y ?_;refine Aj (t:=144) Y rfl (fun hgd=>?_) (fun hgd=>?_)
    ·
     refine Zf Y Y ?_
     (refine Fg Y (Et (n:=5) Y Y ?_) rfl rfl ?_;(focus (omega)))
     refine Yg (CF (n:=0) Y Y)<|Yg (AO Y Y)<|Zv (AC Y Y)<|Z0<|Zn [0,3,4,5,6,7,10,149] ?_;refine Zx ?_;refine Aq Y (fun hgi=>?_) (fun hgi=>?_)
     ·
      refine Aw<|Zt<|AP<|Zx<|Zg<|Zm Y<|Ya (n:=1) Y Y<|Za Y<|Z0<|Zn [6,7,0,3,4,5] ?_;refine Aa (e':=[(6,_),(7,_)]) (by exact ⟨k+1,_,cs,sl,rfl,⟨by omega,by omega,hrl2⟩,rfl,rfl⟩)
     refine AB<|Zn [0,3,4,5,6,7,10] ?_;refine BA (e':=[]) (by exact ⟨trivial,rfl,rfl⟩)
    refine A7 Y rfl<|A7 Y rfl<|A7 Y rfl<|Yg (AC Y Y)<|Zv (AC Y Y)<|Z0<|Zn [0,3,4,5,6,7,10,149] ?_;refine Zx<|Dn Y<|AB<|Zn [0,3,4,5,6,7,10] ?_;refine BA (e':=[]) (by exact ⟨trivial,rfl,rfl⟩)
   rintro _ _ ⟨_,rfl,rfl⟩;refine Zq<|Zg<|Zm Y<|Zv (AV underlying71 Y)<|Za Y<|Z0<|Zx<|Zb [15,0,3,4,5,6,7,10] ?_;refine CU (e0:=[(15,_)]) (H0:=[]) (fun e H=>∃(j:Nat),(j≤cs.length)∧e=[(15,I4 (j:Int))]∧H=[]) Wp ?hx_27 ?hy_27
   case hx_27=>
    refine AR<|Zb [15,0,3,4,5,6,7,10] ?_;refine BB (e0:=[(15,_)]) (fun m e H=>∃(j:Nat),m=0+j∧(j≤cs.length)∧e=[(15,I4 (j:Int))]∧H=[]) (by exact ⟨cs.length,rfl,uG _,rfl,rfl⟩) Wp ?_;rintro _ _ _ ⟨j,rfl,hj,rfl,rfl⟩;refine Zq<|Zq<|BK (n:=35) (0::1::3::7::7::23::63::127::255::7::519::2047::4095::8191::8191::24575::65535::131071::262143::8191::532479::2097151::4194303::8388607::8388607::25165823::67108863::134217727::268435455::8388607::545259519::2147483647::4294967295::8589934591::17179869183::[]) 0 (by kernel_rfl) (by kernel_rfl) rfl ?_;refine Zi 1 0 rfl (AL Y)<|Zi 3 1 rfl (DU (n:=0) Y Y)<|Zi 7 2 rfl (AL Y) ?_;refine CZ (t:=154) Y (fun hjp=>?_) (fun hjp=>?_)
    ·
     first|rw [decide_eq_true hjp]|rw [hjp]|skip
     obtain ⟨y,hy⟩:∃y,cs[j -1]?=some y:=⟨_,tq (by omega)⟩;obtain ⟨gl,capl,curl,zl,hvl,hsl,hlel,hinl⟩:=Di hrl2 (by omega);injection hvl with hv1 hv2 hv3
     subst hv1 hsl;obtain ⟨hy0,hy1⟩:=l7 hinl hy;refine Ai (D':=15) 3 Y rfl rfl rfl (AL Y) ?_;refine Ai (D':=31) 4 Y rfl rfl rfl (AL Y) ?_
     (refine Ai (D':=63) 5 Y rfl rfl rfl (Bi (n:=1) Y Y ?_ ?_) ?_;(focus (omega));(focus (omega)))
     refine Ai (D':=127) 6 Y rfl rfl rfl (Ac underlying71 sizeOf77 Y Y (by omega)) ?_;refine Ai (D':=255) 7 Y rfl rfl rfl (BI (off:=0) underlying77 rfl rfl sizeOf3 Y) ?_;refine Bn (D':=511) 8 Y rfl rfl rfl Wh (Bh isAgg3 Y (by simpa using hy0)) ?_;refine Ai (D':=1023) 9 Y rfl rfl rfl (AY (off:=0) underlying77 rfl rfl sizeOf3 Y) ?_;refine Bn (D':=2047) 10 Y rfl rfl rfl Wh (Bh isAgg3 Y (by rfl)) ?_;refine Ai (D':=4095) 11 Y rfl rfl rfl (Eu Y Y) ?_;refine Ai (D':=8191) 12 Y rfl rfl rfl (AL Y) ?_;refine CZ (t:=164) Y (fun hgm=>?_) (fun hgm=>?_)
     ·
      first|rw [decide_eq_true hgm]|rw [hgm]|skip
      refine Yk 16383 13 rfl<|Yk 32767 14 rfl<|Yk 65535 15 rfl<|Yk 131071 16 rfl<|Yk 262143 17 rfl<|Yk 524287 18 rfl<|Yk 1048575 19 rfl<|Yk 2097151 20 rfl<|Yk 4194303 21 rfl<|Yk 8388607 22 rfl<|Yk 16777215 23 rfl<|Yk 33554431 24 rfl<|Yk 67108863 25 rfl<|Yk 134217727 26 rfl<|Yk 268435455 27 rfl<|Yk 536870911 28 rfl<|Yk 1073741823 29 rfl<|Yk 2147483647 30 rfl<|Yk 4294967295 31 rfl<|Yk 8589934591 32 rfl<|Ai (D':=17179869183) 33 Y rfl rfl rfl (AO Y Y) ?_;refine Zi 34359738367 34 rfl (AO Y Y)<|Ao ?_;refine Zn [0,3,4,5,6,7,10,15,186] ?_;refine Zx<|CP Y<|AB<|Zx<|AR<|Zg<|Zm Y<|Yb (n:=1) Y Y<|Za Y<|Z0<|A8<|Zn [15,0,3,4,5,6,7,10] ?_;refine Aa (e':=[(15,_)]) (by exact ⟨j -1,rfl,by omega,rfl,rfl⟩)
     first|rw [decide_eq_false hgm]|rw [hgm]|skip
     refine Ai (D':=16383) 13 Y rfl rfl rfl (AL Y) ?_;refine Ai (D':=32767) 14 Y rfl rfl rfl (AL Y) ?_
     (refine Ai (D':=65535) 15 Y rfl rfl rfl (Bi (n:=1) Y Y ?_ ?_) ?_;(focus (omega));(focus (omega)))
     refine Ai (D':=131071) 16 Y rfl rfl rfl (Ac underlying71 sizeOf77 Y Y (by omega)) ?_;refine Ai (D':=262143) 17 Y rfl rfl rfl (BI (off:=0) underlying77 rfl rfl sizeOf3 Y) ?_;refine Bn (D':=524287) 18 Y rfl rfl rfl Wh (Bh isAgg3 Y (by simpa using hy0)) ?_;refine Ai (D':=1048575) 19 Y rfl rfl rfl (AY (off:=0) underlying77 rfl rfl sizeOf3 Y) ?_;refine Bn (D':=2097151) 20 Y rfl rfl rfl Wh (Bh isAgg3 Y (by rfl)) ?_;refine Ai (D':=4194303) 21 Y rfl rfl rfl (CO Y Y) ?_;refine Ai (D':=8388607) 22 Y rfl rfl rfl (AL Y) ?_;refine CZ (t:=174) Y (fun hgm=>?_) (fun hgm=>?_)
     ·
      first|rw [decide_eq_true hgm]|rw [hgm]|skip
      refine Ai (D':=16777215) 23 Y rfl rfl rfl (AL Y) ?_;refine Ai (D':=33554431) 24 Y rfl rfl rfl (AL Y) ?_
      (refine Ai (D':=67108863) 25 Y rfl rfl rfl (Bi (n:=1) Y Y ?_ ?_) ?_;(focus (omega));(focus (omega)))
      refine Ai (D':=134217727) 26 Y rfl rfl rfl (Ac underlying71 sizeOf77 Y Y (by omega)) ?_;refine Ai (D':=268435455) 27 Y rfl rfl rfl (BI (off:=1) underlying77 rfl rfl sizeOf3 Y) ?_;refine Bn (D':=536870911) 28 Y rfl rfl rfl Wh (Bh isAgg3 Y (by simpa using hy1)) ?_;refine Ai (D':=1073741823) 29 Y rfl rfl rfl (AY (off:=1) underlying77 rfl rfl sizeOf3 Y) ?_;refine Bn (D':=2147483647) 30 Y rfl rfl rfl Wh (Bh isAgg3 Y (by rfl)) ?_;refine Ai (D':=4294967295) 31 Y rfl rfl rfl (Eu Y Y) ?_;refine Ai (D':=8589934591) 32 Y rfl rfl rfl (AO Y Y) ?_;refine Ai (D':=17179869183) 33 Y rfl rfl rfl (AC Y Y) ?_;refine Zi 34359738367 34 rfl (AO Y Y)<|Ao ?_;refine Zn [0,3,4,5,6,7,10,15,186] ?_;refine Zx ?_;refine Aq Y (fun hgj=>?_) (fun hgj=>?_)
      ·
       refine AB<|Zx<|AR<|Zg<|Zm Y<|Yb (n:=1) Y Y<|Za Y<|Z0<|A8<|Zn [15,0,3,4,5,6,7,10] ?_;refine Aa (e':=[(15,_)]) (by exact ⟨j -1,rfl,by omega,rfl,rfl⟩)
      refine Aw<|Zt<|Zt<|AP<|Zn [15,0,3,4,5,6,7,10] ?_;refine BA (e':=[(15,_)]) (by exact ⟨j,hj,rfl,rfl⟩)
     first|rw [decide_eq_false hgm]|rw [hgm]|skip
     refine Yk 16777215 23 rfl<|Yk 33554431 24 rfl<|Yk 67108863 25 rfl<|Yk 134217727 26 rfl<|Yk 268435455 27 rfl<|Yk 536870911 28 rfl<|Yk 1073741823 29 rfl<|Yk 2147483647 30 rfl<|Yk 4294967295 31 rfl<|Ai (D':=8589934591) 32 Y rfl rfl rfl (AC Y Y) ?_;refine Ai (D':=17179869183) 33 Y rfl rfl rfl (AC Y Y) ?_;refine Zi 34359738367 34 rfl (AO Y Y)<|Ao ?_;refine Zn [0,3,4,5,6,7,10,15,186] ?_;refine Zx<|Dn Y<|Aw<|Zt<|Zt<|AP<|Zn [15,0,3,4,5,6,7,10] ?_;refine BA (e':=[(15,_)]) (by exact ⟨j,hj,rfl,rfl⟩)
    first|rw [decide_eq_false hjp]|rw [hjp]|skip
    refine Yk 15 3 rfl<|Yk 31 4 rfl<|Yk 63 5 rfl<|Yk 127 6 rfl<|Yk 255 7 rfl<|Yk 511 8 rfl<|Yk 1023 9 rfl<|Yk 2047 10 rfl<|Yk 4095 11 rfl<|Yk 8191 12 rfl<|Yk 16383 13 rfl<|Yk 32767 14 rfl<|Yk 65535 15 rfl<|Yk 131071 16 rfl<|Yk 262143 17 rfl<|Yk 524287 18 rfl<|Yk 1048575 19 rfl<|Yk 2097151 20 rfl<|Yk 4194303 21 rfl<|Yk 8388607 22 rfl<|Yk 16777215 23 rfl<|Yk 33554431 24 rfl<|Yk 67108863 25 rfl<|Yk 134217727 26 rfl ?_;refine Yk 268435455 27 rfl<|Yk 536870911 28 rfl<|Yk 1073741823 29 rfl<|Yk 2147483647 30 rfl<|Yk 4294967295 31 rfl<|Yk 8589934591 32 rfl<|Yk 17179869183 33 rfl<|Zi 34359738367 34 rfl (AC Y Y)<|Ao ?_;refine Zn [0,3,4,5,6,7,10,15,186] ?_;refine Zx<|Dn Y<|Aw<|Zt<|Zt<|AP<|Zn [15,0,3,4,5,6,7,10] ?_;refine BA (e':=[(15,_)]) (by exact ⟨j,hj,rfl,rfl⟩)
   rintro _ _ ⟨j,hj,rfl,rfl⟩;refine BK (n:=12) (0::0::0::7::0::16::0::0::192::496::1023::2047::[]) 1568 (by kernel_rfl) (by kernel_rfl) rfl ?_;refine Zi 1 0 rfl (AL Y)<|Zi 3 1 rfl (AL Y)<|Zi 7 2 rfl (AL Y) ?_;refine Zi 15 3 rfl (JW underlying71 sizeOf77 Y Y Y (by omega)) ?_;refine D9 (D':=31) 4 rfl rfl rfl Wh (Pa #[_,_,_,_,_,_,_,_,_,_] isAgg77 sizeOf77 Y) ?_;refine Zi 95 6 rfl (AL Y)<|Zi 223 7 rfl (AL Y) ?_;refine Zi 479 8 rfl (CE underlying71 sizeOf77 Y Y (by omega)) ?_;refine Yw 5 511 rfl (Af (vs:=[_]) (cs:=[_,_,_,_,_,_,_,_,_,_]) underlying71 sizeOf77 zeroValue77 Y rfl rfl rfl rfl rfl) ?_;rintro _ _ ⟨gb,rfl,rfl⟩;refine Yw 9 1023 rfl (BR (by_:=80) (sz:=10) underlying71 (rfl:Tryz.prog.info? 77=some Tryz.t77) rfl rfl rfl rfl Y (J7 10 77 gb 1 (Cs [c]) rfl (by decide)) Y (Io hrl2 j (cs.length -j) _ (by omega)) Wo Wo (by exact fun u hu=>V7 cs u (vP hu)) (by omega) (by omega)) ?_;rintro _ _ ⟨sa9,hra9,rfl⟩;obtain ⟨ga9,ca9,rfl⟩:=hra9.form;refine Yw 10 2047 rfl (Km (by_:=80) (sz:=10) underlying71 (rfl:Tryz.prog.info? 77=some Tryz.t77) rfl rfl rfl rfl Y (Im hrl2 j _ hj) Y (UM hra9) Wo Wo (by omega) (by omega) (by omega)) ?_;rintro _ _ ⟨sb9,hrb9,rfl⟩;have hnew:=BP hrb9 (n':=(cs.take j++[c]++cs.drop j).length) (xs':=Cs (cs.take j++[c]++cs.drop j)) (by simp only [u6,uD,uE,uH];omega) (by rw [Ij,Ij,SG,SH,uF])
   obtain ⟨gb9,cb9,rfl⟩:=hrb9.form;refine Zi 4095 11 rfl (Au Y)<|Ao ?_;refine A8<|Zx<|Zg<|Zm Y<|Ya (n:=1) Y Y<|Za Y<|Z0<|Zn [6,7,0,3,4,5] ?_;refine Aa (e':=[(6,_),(7,_)]) (by exact ⟨k+1,_,cs.take j++[c]++cs.drop j,_,rfl,⟨by omega,by simp only [u6,uD,uE,uH];omega,hnew⟩,rfl,rfl⟩)
  refine Aw<|Zt<|Zt<|AP<|Zx<|Zq<|Zg<|Zm Y<|Zp Y rfl<|Zh 1 underlying182 rfl rfl sizeOf3 Y<|Zl isAgg3 Y ?_;refine Ya (n:=1) Y Y<|Zm Y<|Zv (BL (vs:=[(0,_),(1,_)]) (cs:=#[_,_]) Y (Ab (pl:=#[(0,1),(1,1)]) zeroValue73 underlying73 (fun _=>by kernel_rfl) rfl)) ?_;refine Ze (Al zeroValue73 #[_,_]) ?_;rintro _ _ ⟨rb,rfl,rfl⟩;refine Xe (BQ sizeOf73 Y Y (by(simp [Value.oneCell',Value.cells];done)) Wu (by exact (rfl:_=(#[I4 ((rcs.length:Int)+1),.slice gw cs.length cw]:Array Value))) (by first|rfl|(simp;done)) (by exact uG _) (by exact BS _)) ?_;refine Z0<|Zx<|Zq<|Zg<|Zm Y<|Zo Wh (Pa #[_,_] isAgg73 sizeOf73 Y) ?_;refine Zc [_,_] Y call48 Y rfl (Vx sp (rcs.length:Int) ((rcs.length:Int)+1) _ (BU rcs) sv sl gw cw cs hrw (U5 hrl2 (by omega)) hsr hr2 (by omega)) ?_;rintro _ _ ⟨_,hres,rfl⟩;rcases hres with⟨hap,v2,sv2,rfl,hrw2,rfl⟩|⟨hap,rfl,rfl⟩
  ·
   refine Za Y<|Z0<|Zn [0,3,4,5,16,17] ?_;refine Zx<|Zq<|Zg<|Zm Y<|Zv (CF (n:=0) Y Y)<|Z0<|Zx ?_;refine Aq Y (fun he=>?_) (fun he=>?_)
   ·
    have hlog2:DY (rcs++[⟨(rcs.length:Int)+1,gw,cw,cs⟩]):=hlog.snoc hap (by show cs.length≤3;omega);have hpos3:(((rcs++[(⟨(rcs.length:Int)+1,gw,cw,cs⟩:Bq)]).length:Nat):Int)=(rcs.length:Int)+1:=by rw [u6,uH];omega
    have hrw3:BZ 5 113 v2 (BU (rcs++[⟨(rcs.length:Int)+1,gw,cw,cs⟩])).length (Ae (BU (rcs++[⟨(rcs.length:Int)+1,gw,cw,cs⟩]))) sv2:=by rw [FO];exact hrw2
    have hMM3:∀r∈rcs++[(⟨(rcs.length:Int)+1,gw,cw,cs⟩:Bq)],Dm (MM++sl) (.slice r.q r.cs.length r.cap) r.cs:=by
     intro r hr;rcases uQ.1 hr with hr|hr
     · exact XK (hMM r hr) sl
     · rw [uL.1 hr];exact Nl (U5 hrl2 (by omega)) MM
    refine Ki (s1:=MM) (s2:=sl) Wo Wo ?_;refine Zg<|Zm Y<|Zo Wh (Pa #[_,_] isAgg73 sizeOf73 Y) ?_;refine Ze (Af (vs:=[_]) (cs:=[_,_]) underlying28 sizeOf73 zeroValue73 Y rfl rfl rfl rfl rfl) ?_;rintro _ _ ⟨gq,rfl,rfl⟩;refine Ze (BR (by_:=32) (sz:=2) underlying28 (rfl:Tryz.prog.info? 73=some Tryz.t73) rfl rfl rfl rfl Y (hro) Y (Da 2 gq 1 1 73 (0,0) [I4 ((rcs.length:Int)+1),.slice gw cs.length cw] rfl) Wo Wo (by simp [Value.oneCell']) (by omega) (by omega)) ?_;rintro _ _ ⟨sO,hrO,rfl⟩;have hro3:=BP hrO (n':=(rcs++[(⟨(rcs.length:Int)+1,gw,cw,cs⟩:Bq)]).length) (xs':=Ep (rcs++[⟨(rcs.length:Int)+1,gw,cw,cs⟩])) (by rw [u6,uH]) (by rw [Ua];rfl)
    obtain ⟨gO,cO,rfl⟩:=hrO.form;refine Za Y<|Z0<|A8<|Zx<|Zg<|Zm Y<|Ya (n:=1) Y Y<|Za Y<|Z0<|Zn [3,5,0,4] ?_;refine Aa (e':=[(3,_),(5,_)]) (by exact ⟨i+1,rcs++[⟨(rcs.length:Int)+1,gw,cw,cs⟩],_,_,sv2,sO,MM++sl,rfl,⟨by omega,hlog2,by rw [u6,uH];omega,hrw3,hro3,hMM3⟩,rfl,by rw [hpos3]⟩)
   exact absurd rfl he
  refine Za Y<|Z0<|Zn [0,3,4,5,16,17] ?_;refine Zx<|Zq<|Zg<|Zm Y<|Zv (CF (n:=0) Y Y)<|Z0<|Zx ?_;refine Aq Y (fun he=>?_) (fun he=>?_)
  ·
   cases he
  refine AB<|A8<|Zx<|Zg<|Zm Y<|Ya (n:=1) Y Y<|Za Y<|Z0<|Zn [3,5,0,4] ?_;refine Aa (e':=[(3,_),(5,_)]) (by exact ⟨i+1,rcs,_,_,sv,so,MM,rfl,⟨by omega,hlog,by omega,hrw,hro,hMM⟩,rfl,rfl⟩)
 refine Aw<|Zt<|Zt<|AP<|Zx<|Zq<|Ki (s1:=so) (s2:=MM) Wo Wo ?_;refine Zg<|Zm Y<|Za Y<|Z0<|Zx<|AA ?_;refine AJ rfl results105 Y (by exact ⟨rcs,_,hlog,by omega,TC hro (by omega) hMM,rfl⟩)
end Go.Proofs.YtkdgffcfmgmemaaGreatDoor
