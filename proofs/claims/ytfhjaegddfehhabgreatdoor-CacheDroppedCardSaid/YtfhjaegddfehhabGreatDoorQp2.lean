/-
  The sort with a function lies in the program: laid at rows (printed by the kit, in plain words).
-/
import Derived.Test.YtfhjaegddfehhabGreatDoorMt2
set_option linter.unusedVariables false
set_option linter.unusedSimpArgs false
namespace Go.Proofs
open Go.Shelf
def Tryz.sortIv_ren:Go.Shelf.Ren:=⟨fun|6=>223|15=>108|14=>261|28=>173|29=>174|20=>300|21=>301|22=>302|23=>303|24=>304|25=>305|26=>306|27=>307|46=>324|47=>233|48=>234|49=>325|50=>326|57=>334|n=>n,fun|22=>271|24=>273|25=>325|3=>3|39=>205|0=>0|53=>291|55=>293|4=>4|46=>283|45=>282|50=>288|5=>5|9=>9|66=>334|70=>121|76=>374|77=>375|n=>n,fun|n=>n⟩
theorem Tryz.sortIv:Go.Proofs.SlLaysF0.n6 prog Tryz.sortIv_ren:={
 mixed:=by kernel_rfl
 f6:=⟨Tryz.f223.name,by decide,func223.trans (congrArg some AE)⟩
 f14:=⟨Tryz.f261.name,by decide,func261.trans (congrArg some AE)⟩
 f15:=func108.trans (congrArg some AE)
 f20:=⟨Tryz.f300.name,by decide,func300.trans (congrArg some AE)⟩
 f21:=⟨Tryz.f301.name,by decide,func301.trans (congrArg some AE)⟩
 f22:=⟨Tryz.f302.name,by decide,func302.trans (congrArg some AE)⟩
 f23:=⟨Tryz.f303.name,by decide,func303.trans (congrArg some AE)⟩
 f24:=⟨Tryz.f304.name,by decide,func304.trans (congrArg some AE)⟩
 f25:=⟨Tryz.f305.name,by decide,func305.trans (congrArg some AE)⟩
 f26:=⟨Tryz.f306.name,by decide,func306.trans (congrArg some AE)⟩
 f27:=⟨Tryz.f307.name,by decide,func307.trans (congrArg some AE)⟩
 f28:=func173.trans (congrArg some AE)
 f29:=func174.trans (congrArg some AE)
 f46:=⟨Tryz.f324.name,by decide,func324.trans (congrArg some AE)⟩
 f47:=func233.trans (congrArg some AE)
 f48:=func234.trans (congrArg some AE)
 f49:=⟨Tryz.f325.name,by decide,func325.trans (congrArg some AE)⟩
 f50:=⟨Tryz.f326.name,by decide,func326.trans (congrArg some AE)⟩
 f57:=⟨Tryz.f334.name,by decide,func334.trans (congrArg some AE)⟩
 t0:=ec
 a0:=isAgg0
 z0:=sizeOf0
 v0:=dc
 t3:=CM
 a3:=AF
 z3:=A6
 v3:=HG
 t4:=LS
 a4:=E6
 z4:=Cp
 v4:=W5
 t5:=N1
 a5:=UP
 z5:=K0
 v5:=Sp
 t9:=H4
 a9:=HK
 z9:=Fo
 v9:=Hs
 t22:=cA
 a22:=isAgg271
 z22:=sizeOf271
 v22:=zeroValue271
 t25:=underlying325
 a25:=isAgg325
 z25:=sizeOf325
 v25:=zeroValue325
 t39:=Wk
 a39:=isAgg205
 z39:=el
 v39:=gA
 t45:=kj
 a45:=isAgg282
 z45:=sizeOf282
 v45:=l4
 t46:=kk
 a46:=isAgg283
 z46:=sizeOf283
 v46:=lA
 t50:=ki
 a50:=isAgg288
 z50:=sizeOf288
 v50:=l3
 t53:=Tl
 a53:=Hv
 z53:=G1
 v53:=gC
 t55:=Wr
 a55:=Z3
 z55:=dj
 v55:=gE
 t66:=kl
 a66:=isAgg334
 z66:=sizeOf334
 v66:=lB
 t70:=kn
 a70:=isAgg121
 z70:=Tr
 v70:=Xs
 t76:=kq
 a76:=isAgg374
 z76:=sizeOf374
 v76:=lE
 t77:=kx
 a77:=isAgg375
 z77:=sizeOf375
 v77:=lO}
end Go.Proofs
namespace Go.Proofs.YtfhjaegddfehhabGreatDoor
open Go.Proofs.Tryz
open Go Go.RowKit Gw
set_option maxRecDepth 100000
attribute [local irreducible] Gw.At Gw.Nx Gw.Ops
open Go.Sort Go.Shelf
theorem iZ(a b:IvM)(W:AD):Calls prog 224 #[.agg #[I4 a.lo,I4 a.hi,I4 a.rc,I4 a.id],.agg #[I4 b.lo,I4 b.hi,I4 b.rc,I4 b.id]] W fun e B=>e= .returned (I4 (Lib.compareInt a.lo b.lo))/\∃q m,B=grow (W.drewN q) m:=by
 go_enter func224,ntmps224
 go_wp2
 all_goals (try simp only [G3]at*)
 all_goals go_ret
 all_goals refine ⟨?_,0,_,by rw [alloc_eq_grow,alloc_eq_grow,grow_grow];rfl⟩
 all_goals (simp [Lib.compareInt]<;>(try split)<;>(first|rfl|omega))
def CO(l:List IvM):List A3:=l.flatMap fun x=>[I4 x.lo,I4 x.hi,I4 x.rc,I4 x.id]
instance:Inhabited IvM:=⟨⟨0,0,0,0⟩⟩
def Nf(x:IvM):List A3:=[I4 x.lo,I4 x.hi,I4 x.rc,I4 x.id]
def bV(a b:IvM):Int:=Lib.compareInt a.lo b.lo
theorem RA(l:List IvM):(CO l).length=l.length*4:=by
 induction l with
 |nil=>rfl
 |cons a l ih=>simp only [CO,HW,BW,Dd]at ih⊢;rw [ih];simp;omega
theorem ltI(a b:IvM):ltOf bV a b=decide (a.lo<b.lo):=by
 unfold ltOf bV Lib.compareInt;apply decide_eq_decide.2;split<;>(try split)<;>omega
theorem yi:SWO (ltOf bV)where
 irrefl x:=by rw [ltI];simp
 trans x y z h1 h2:=by rw [ltI]at*;simp only [G3]at*;omega
 ntrans x y z h1 h2:=by rw [ltI]at*;simp only [N5]at*;omega
theorem dz(w:A3)(o:List IvM)(s:List A9)(hn:o.length<=1000000)(cO:Bd 4 273 w o.length (CO o) s):
 BZ prog 223 #[w,.func (.func 224) #[] #[]] [s]
  (fun r H'=>r= .tuple #[]/\∃(s':List A9) (o':List IvM),o'.Perm o/\(o'.Pairwise fun a b=>a.lo<=b.lo)/\Bd 4 273 w o'.length (CO o') s'/\H'=[s']):=by
 obtain ⟨ek,⟨rfl,h0,rfl⟩|⟨g,cap,cur,z,rfl,rfl,cu,af,J,d9,X⟩⟩:=cO
 · intro u R w0 hs
   have ho:o=[]:=MT h0;subst ho;have hN:=AnyF.slices_SortFunc_none Tryz.sortIv none 0 (.func (.func 224) #[] #[]) w0
   exact hN.mono (by
    rintro e w' ⟨rfl,rfl⟩;exact .inl ⟨_,_,V,⟨V,[],[],.refl _,.nil,Bf _ _,V⟩,hs⟩)
 · intro u R w0 hs
   have hb:=hs.get (g,.cells cur 273 z) B4;have hH:=U3 (w:=w0) (g:=g) (cur:=cur) (e:=273) (z:=z) Nf 4 (fun _=>rfl) o hb (by rw [J];omega) X d9
   have eg:∀(args:AH) (w:AD),(callFunc 224 args).run prog w= .ok (.enter 224 args) w:=enters_of func224 AE rfl;have U:CmpLays prog 224 #[] Nf 4 bV g 0 o.toArray.size w0:=by
    intro m os dk gm x y;exact iZ x y _
   have W:=AnyQ.slices_SortFunc Tryz.sortIv 4 isAgg273 P0 Nf (fun _=>rfl) (fun x v hv=>by simp [Nf]at hv;rcases hv with rfl|rfl|rfl|rfl<;>rfl) bV yi 224 #[] g 0 cap o.toArray w0 eg U hH (hs.lt (p:=(g,.cells cur 273 z)) B4) I2;refine W.mono ?_;rintro e w' ⟨rfl,B,n,os,⟨ax,-,hpm⟩,hso,rfl⟩;have G:B.size=o.length:=by simpa using ax
   have hF:(flatK Nf 4 B).toList=CO B.toList:=O8 Nf 4 (fun _=>rfl) B.toList;have O:(flatK Nf 4 B).size=o.length*4:=by rw [size_flatK,G]
   have I:B.toList.Perm o:=by
    have e1:B.extract 0 o.toArray.size=B:=by
     rw [show o.toArray.size=B.size by rw [G];simp];exact Array.extract_size
    rw [e1]at hpm;simpa using hpm
   have Z:B.toList.length=o.length:=I.length_eq;refine .inl ⟨_,[[(g,.cells (putCells id 0 (flatK Nf 4 B) cur) 273 z)]],V,⟨V,_,B.toList,I,?_,?_,V⟩,hs.sortedK Nf B os⟩
   · rw [fS]
     intro i j hi hj bn;have h:=hso i j (C5 _) bn I2
     rw [ltI]at h;simp only [N5]at h;rw [getElem!_pos B i (by simpa using hi),getElem!_pos B j (by simpa using hj)]at h;simp only [Array.getElem_toList];omega
   · rw [Z]
     refine ⟨by rw [RA,Z],.inr ⟨g,cap,_,z,rfl,rfl,cu,af,by rw [Mm];exact J,?_,by rw [Mm];exact X⟩⟩;have h:=Vf cur (flatK Nf 4 B) (by rw [O,J];omega)
     rw [O,hF]at h;exact h
end Go.Proofs.YtfhjaegddfehhabGreatDoor
namespace Go.Proofs.YtfhjaegddfehhabGreatDoor
open Go.Proofs.Tryz
open Go Go.RowKit Gw
set_option maxRecDepth 100000
attribute [local irreducible] Gw.At Gw.Nx Gw.Ops
variable{l:List IvM}{i:Nat}{x:IvM}
theorem aP(h:l[i]?=some x):(CO l)[i*4+1]?=some (I4 x.hi)/\(CO l)[i*4+2]?=some (I4 x.rc):=by
 induction l generalizing i with
 |nil=>simp at h
 |cons a l ih=>
  cases i with
  |zero=>simp at h;subst h;exact ⟨rfl,rfl⟩
  |succ i=>
   have m:l[i]?=some x:=by simpa using h
   rw [show(i+1)*4+1=i*4+1+4 by omega,show(i+1)*4+2=i*4+2+4 by omega];exact ih m
theorem aO(h:l[i]?=some x)(r:Int):(CO l).set (i*4+2) (I4 r)=CO (l.set i {x with rc:=r}):=by
 induction l generalizing i with
 |nil=>simp at h
 |cons a l ih=>
  cases i with
  |zero=>simp at h;subst h;rfl
  |succ i=>
   have m:l[i]?=some x:=by simpa using h
   rw [show(i+1)*4+2=i*4+2+4 by omega];have:=ih m
   show _::_::_::_::(CO l).set (i*4+2) (I4 r)=_;rw [this];rfl
variable{cur:AH}{n:Nat}
theorem uN(B:cur.toList.take (n*4)=CO l)(h:l[i]?=some x):cur[i*4+1]?=some (I4 x.hi)/\cur[i*4+2]?=some (I4 x.rc):=by
 obtain ⟨m,h2⟩:=aP h;rw [<-B,HJ]at m h2;constructor
 · by_cases hc:i*4+1<n*4
   · rw [Ax hc]at m;simpa using m
   · rw [An hc]at m;cases m
 · by_cases hc:i*4+2<n*4
   · rw [Ax hc]at h2;simpa using h2
   · rw [An hc]at h2;cases h2
theorem uM(m:cur.toList.take (n*4)=CO l)(h:l[i]?=some x)(r:Int):(cur.setIfInBounds (i*4+2) (I4 r)).toList.take (n*4)=CO (l.set i {x with rc:=r}):=by
 rw [iz,List.take_set,m,aO h]
theorem jb{g m:Nat}{z:Nat×Nat}(hn:l.length=n)(O:cur.toList.take (n*4)=CO l)(J:n<=m)(B:m<=maxLen)(G:cur.size=m*4)(I:Ik z cur.size):Bd 4 273 (I6 g n m) l.length (CO l) [(g,.cells cur 273 z)]:=by
 subst hn;exact ⟨RA l,.inr ⟨g,m,cur,z,V,V,J,B,G,O,I⟩⟩
def O4(x:IvM):Int×Int×Int:=(x.lo,x.hi,x.id)
def pU(l:List IvM)(i:Nat):Prop:=∀(j k:Nat) (x y:IvM),j<=k->k<i->l[j]?=some x->l[k]?=some y->x.hi<=y.rc
theorem VT{r:Int}(h:pU l i)(hx:l[i]?=some x)(U:x.hi<=r)(O:∀y,0<i->l[i -1]?=some y->y.rc<=r):pU (l.set i {x with rc:=r}) (i+1):=by
 have I:=(C4.1 hx).1;intro j k a b J X m G;rw [Th]at m G;rcases E4 k i with hki|hki
 · rw [An A1]at m G
   exact h j k a b J hki m G
 · obtain rfl:k=i:=by omega
   rw [Ax rfl,Ax I]at G;injection G with G
   subst G;by_cases B:k=j;· rw [Ax B,Ax I]at m;injection m with m;subst m;exact U
   · rw [An B]at m
     obtain ⟨y,hy⟩:∃y,l[k -1]?=some y:=⟨_,B7 A1⟩;have W:=h j (k -1) a y A1 A1 m hy
     have h2:=O y A1 hy;show a.hi<=r
     omega
theorem Tq{r:Int}(hx:l[i]?=some x):(l.set i {x with rc:=r}).map O4=l.map O4:=by
 apply Mu;intro k;rw [E0,E0,Th];by_cases m:i=k
 · subst m
   rw [Ax rfl,Ax (C4.1 hx).1,hx];rfl
 · rw [An m]
theorem gF(w:A3)(o:List IvM)(s:List A9)(hn:o.length<=1000000)(d9:Bd 4 273 w o.length (CO o) s):BZ prog 157 #[w] [s] (fun r H'=>r=w/\∃(s':List A9) (l o':List IvM),o'.Perm o/\(o'.Pairwise fun a b=>a.lo<=b.lo)/\l.map O4=o'.map O4/\pU l l.length/\Bd 4 273 w l.length (CO l) s'/\H'=[s']):=by
 have pg:=mL;obtain ⟨pw,cw,rfl⟩:=d9.form;refine Se func157 ntmps157 [0] ?_;intro u R;refine A0<|A4 Y<|A0<|Zm Y<|Zc [_,_] Y call223 Y V (dz _ o s hn d9) ?_;rintro _ _ ⟨_,⟨rfl,s1,o1,cu,l9,l8,rfl⟩,rfl⟩;have l5:=cu.length_eq
 refine A5<|Zq<|A0<|Zm Y<|Zv (AY cA Y)<|Zm Y<|A5<|AQ<|Zb [8,0,7] ?_;refine BA (e0:=[(8,_)]) (fun m e H=>∃(i:Nat) (l:List IvM) (s2:List A9),m=o.length -i/\((i<=o.length/\l.length=o.length)/\l.map O4=o1.map O4/\pU l i/\Bd 4 273 (.slice pw o.length cw) l.length (CO l) s2)/\e=[(8,I4 (i:Int))]/\H=[s2]) (by exact ⟨0,o1,s1,V,⟨⟨C5 _,l5⟩,V,fun j k x y _ h=>absurd h (cX k),l8⟩,V,V⟩) Wp ?_;rintro _ _ _ ⟨i,l,s2,rfl,⟨⟨p8,j5⟩,X,O,cO⟩,rfl,rfl⟩;refine A0<|Zv (Au Y Y)<|A5<|Zq<|Aq Y (fun kv=>?_) (fun kv=>?_);·
  refine AC<|Zx<|Zq<|AQ<|A0<|Zm Y<|A4 Y<|Zq ?_;rcases cO with⟨o9,⟨gm,h0,rfl⟩|⟨g,cap,cur,z,gm,rfl,p9,af,ax,ek,bn⟩⟩
  · omega
  injection gm with e1 e2 e3
  subst e1 e3;obtain ⟨x,hx⟩:∃x,l[i]?=some x:=⟨_,B7 A1⟩;have gy:=uN ek hx
  refine Zg<|Zm Y<|Zm Y<|Zm Y<|Zm Y<|BV (Ad cA P0 Y Y A1)<|Zv (Ar (off:=1) XS rfl rfl A6 Y)<|Zl AF Y (hv:=by exact (by rw [DM];exact gy.1)) ?_;refine BV (Ad cA P0 Y Y A1)<|Zv (Ar (off:=2) XS V rfl A6 Y)<|Xe (Zs A6 Y Y V (hi:=by omega) (hz:=by exact bn)) ?_;refine Z0<|Zn [0,3,7,8] ?_;refine Zx<|Zq ?_;obtain ⟨W,G⟩:∃W,W=cur.setIfInBounds (0+i*4+2) (I4 x.hi):=⟨_,rfl⟩;rw [<-G];have B:W.toList.take (l.length*4)=CO (l.set i {x with rc:=x.hi}):=by rw [G,DM];exact uM ek hx x.hi
  have I:W.size=cw*4:=by rw [G,T5];exact ax
  have J:Ik z W.size:=by rw [I,<-ax];exact bn
  have Z:(l.set i {x with rc:=x.hi})[i]?=some {x with rc:=x.hi}:=by rw [Th,Ax rfl,Ax A1]
  have ic:=uN B Z;refine Zg<|Zm Y<|Zv (DK (n:=0) Y Y)<|A5<|Aq Y (fun gq=>?_) (fun gq=>?_);·
   obtain ⟨y,hy⟩:∃y,l[i -1]?=some y:=⟨_,B7 A1⟩;have o8:(l.set i {x with rc:=x.hi})[i -1]?=some y:=by rw [Th,An A1];exact hy
   have j3:=uN B o8;refine Az (n:=17) (0::0::0::0::12::28::60::0::0::256::896::1920::3968::8188::16383::32767::65535::[]) 65536 AE AE rfl<|A2 0 rfl (AP Y)<|A2 1 rfl (AP Y)<|A2 2 rfl (AP Y)<|A2 3 rfl (AP Y)<|A2 4 rfl (Ad cA P0 Y Y A1)<|A2 5 rfl (Ar (off:=2) XS rfl rfl A6 Y)<|B9 6 rfl AF Y (hv:=by exact (by rw [DM];exact ic.2)) ?_;refine A2 7 V (AP Y)<|A2 8 V (AP Y) ?_
   (refine Dr (D':=1023) 9 (CQ (n:=1) Y Y ?_ ?_) ?_;(focus (omega));(focus (omega)))
   refine A2 10 rfl (Ad cA P0 Y Y A1)<|A2 11 rfl (Ar (off:=2) XS rfl rfl A6 Y)<|B9 12 rfl AF Y (hv:=by exact (by rw [DM];exact j3.2)) ?_;refine A2 13 V (QS Y Y)<|A2 14 V (Ad cA P0 Y Y A1)<|A2 15 V (Ar (off:=2) XS V rfl A6 Y)<|Zz (l:=[16])<|B5 [false,false] [] V rfl (Zs A6 Y Y V (hi:=by omega) (hz:=by exact J)) ?_ (fun _ _ h=>h.elim) Ah;rintro _ _ ⟨rfl,rfl⟩;refine BT<|Ag<|Zn [0,7,8] ?_;refine A8<|Zx<|Zg<|Ya (n:=1) Y Y<|Zm Y<|Z0<|Zn [8,0,7] ?_;refine Ab (e':=[(8,_)]) (by exact ⟨i+1,(l.set i {x with rc:=x.hi}).set i {x with rc:=max x.hi y.rc},[(g,.cells (W.setIfInBounds (0+i*4+2) (I4 (max x.hi y.rc))) 273 z)],rfl,⟨⟨by omega,by simp;omega⟩,by rw [Tq Z,Tq hx];exact X,by rw [List.set_set];exact VT O hx A1 (fun y2 _ U=>by rw [hy]at U;injection U with U;rw [<-U];omega),jb I2 (by rw [DM,e2];exact uM B Z _) A1 af (by rw [T5];exact I) (by rw [T5];exact J)⟩,rfl,rfl⟩)
  refine AC<|A8<|Zx<|Zg<|Ya (n:=1) Y Y<|Zm Y<|Z0<|Zn [8,0,7] ?_;refine Ab (e':=[(8,_)]) (by exact ⟨i+1,l.set i {x with rc:=x.hi},[(g,.cells W 273 z)],rfl,⟨⟨by omega,by simp;omega⟩,by rw [Tq hx];exact X,VT O hx A1 (fun y2 h0=>absurd h0 A1),jb I2 (by rw [e2];exact B) A1 af I J⟩,rfl,rfl⟩)
 obtain rfl:i=o.length:=by omega
 refine Ay<|Zt<|Zt<|AR<|Zx<|A0<|Zm Y<|A4 Y<|AJ<|AO V results157 Y (by exact ⟨V,s2,l,o1,cu,l9,X,j5▸O,cO,V⟩)
theorem wH(v:Int):∀{l:List IvM},(l.Pairwise fun a b=>a.lo<=b.lo)->l.takeWhile (fun x=>decide (x.lo<=v))=l.filter fun x=>decide (x.lo<=v)
 |[],_=>rfl
 |a::l,h=>by
  obtain ⟨B,h2⟩:=RE.1 h;by_cases m:a.lo<=v;· rw [sC (by simpa using m),List.filter_cons_of_pos (by simpa using m),wH v h2]
  · rw [sE (by simpa using m),lz (by simpa using m)]
    exact (mA.2 fun b G=>by have:=B b G;simp;omega).symm
theorem VK(v:Int):∀{q:List IvM},(q.Pairwise fun a b=>b.hi<=a.rc)->(∀a∈q,a.hi<=a.rc)->(q.takeWhile fun x=>decide (v<=x.rc)).filter (fun x=>decide (v<=x.hi))=q.filter fun x=>decide (v<=x.hi)
 |[],_,_=>rfl
 |a::q,h,hs=>by
  obtain ⟨G,h2⟩:=RE.1 h;by_cases B:v<=a.rc;· rw [sC (by simpa using B),cV,cV,VK v h2 fun b m=>hs b (FA _ m)]
  · rw [sE (by simpa using B)]
    refine (mA.2 fun b m=>?_).symm;rcases DB.1 m with rfl|m
    · have:=hs b B4;simp;omega
    · have:=G b m;simp;omega
theorem ol{v:Int}(X:l.Pairwise fun a b=>a.lo<=b.lo)(J:pU l l.length)(i:Int):i∈Iz v l↔∃x∈l,x.lo<=v/\v<=x.hi/\x.id=i:=by
 have W:l.Pairwise fun a b=>a.hi<=b.rc:=fS.2 fun j k m I U=>J j k _ _ A1 I (B7 m) (B7 I);have O:∀a∈l,a.hi<=a.rc:=fun a G=>by
  obtain ⟨j,m,rfl⟩:=List.mem_iff_getElem.1 G;exact J j j _ _ (D2 _) m (B7 m) (B7 m)
 unfold Iz;rw [wH v X,VK v (List.pairwise_reverse.2 (W.sublist Up)) fun a G=>O a (FF.1 (cW.1 G)).1];simp only [C3,FF,cW,G3];constructor;· rintro ⟨x,⟨⟨hx,B⟩,h2⟩,rfl⟩;exact ⟨x,hx,B,h2,rfl⟩
 · rintro ⟨x,hx,B,h2,rfl⟩;exact ⟨x,⟨⟨hx,B⟩,h2⟩,rfl⟩
variable{o:List IvM}
theorem aH(m:l.map O4=o.map O4){a b i:Int}:(∃x∈l,x.lo=a/\x.hi=b/\x.id=i)↔∃x∈o,x.lo=a/\x.hi=b/\x.id=i:=by
 have h:∀{l:List IvM},(∃x∈l,x.lo=a/\x.hi=b/\x.id=i)↔(a,b,i)∈l.map O4:=fun{l}=>by
  simp only [C3,O4,kf]
 rw [h,h,m]
theorem aI(m:l.map O4=o.map O4)(B:o.Pairwise fun a b=>a.lo<=b.lo):l.Pairwise fun a b=>a.lo<=b.lo:=by
 have h:∀{l:List IvM},(l.Pairwise fun a b=>a.lo<=b.lo)↔(l.map O4).Pairwise fun a b=>a.1<=b.1:=fun{l}=>by
  rw [V0];rfl
 rw [h,m];exact h.1 B
def RX(x:Int×QM):IvM:=⟨x.2.lo,x.2.hi,0,x.1⟩
def plQ(x:Int×QM):Int×Int:=(x.2.tb,x.2.cl)
def Ed(vs:List (Int×QM))(k:Int×Int):List IvM:=(vs.filter fun x=>decide (plQ x=k)).map RX
def FU(vs:List (Int×QM))(t:Int):List Int:=(vs.filter fun x=>decide (x.2.kd=7/\x.2.ot=t)).map (·.1)
theorem Tu(vs:List (Int×QM))(x:Int×QM)(k:Int×Int):Ed (vs++[x]) k=if k=plQ x then Ed vs (plQ x)++[RX x]else Ed vs k:=by
 unfold Ed;rw [IH,C2];by_cases h:k=plQ x;· subst h;simp
 · rw [An h,lz (by simpa using fun e=>h e.symm)];simp
theorem O5(vs:List (Int×QM))(x:Int×QM)(t:Int):FU (vs++[x]) t=if x.2.kd=7/\t=x.2.ot then FU vs x.2.ot++[x.1]else FU vs t:=by
 unfold FU;rw [IH,C2];by_cases h:x.2.kd=7/\t=x.2.ot;· obtain ⟨m,rfl⟩:=h;simp [m]
 · rw [An h,lz (by simpa using fun e1 e2=>h ⟨e1,e2.symm⟩)];simp
theorem aR(a b:List IvM):CO (a++b)=CO a++CO b:=by unfold CO;rw [Pu]
abbrev wV(vs:List (Int×QM))(lm:List ((Int×Int)×A3))(M:List A9):Prop:=Ud 4 273 lm (fun k=>(Ed vs k).length) (fun k=>CO (Ed vs k)) M
abbrev dI(vs:List (Int×QM))(lm:List (Int×A3))(M:List A9):Prop:=Ud 1 3 lm (fun t=>(FU vs t).length) (fun t=>(FU vs t).map fun i=>Value.int .i64 i) M
variable{vs:List (Int×QM)}{M:List A9}
theorem oJ{lm:List ((Int×Int)×A3)}(X:(lm.map (·.1)).Nodup)(h:wV vs lm M)(x:Int×QM):
 ∃s B,Bd 4 273 ((EK (plQ x) lm).getD (.slice none 0 0)) (Ed vs (plQ x)).length (CO (Ed vs (plQ x))) s/\M.Perm (s++B)/\∀(I:A3) (G:List A9) (m:List ((Int×Int)×A3)),(m.map (·.1)).Nodup->(∀p,p∈m↔p=(plQ x,I)\/(p∈lm/\p.1≠plQ x))->
  Bd 4 273 I (Ed vs (plQ x)++[RX x]).length (CO (Ed vs (plQ x)++[RX x])) G->wV (vs++[x]) m (G++B):=by
 obtain ⟨s,B,O,h2,U⟩:=Qc X h (plQ x);refine ⟨s,B,O,h2,fun I G m J Z hr=>?_⟩;have W:=U I G _ _ m J Z hr
 have e1:(fun k=>(Ed (vs++[x]) k).length)=fun k=>if k=plQ x then(Ed vs (plQ x)++[RX x]).length else(Ed vs k).length:=funext fun k=>by
  rw [Tu];split<;>rfl
 have e2:(fun k=>CO (Ed (vs++[x]) k))=fun k=>if k=plQ x then CO (Ed vs (plQ x)++[RX x])else CO (Ed vs k):=funext fun k=>by
  rw [Tu];split<;>rfl
 unfold wV;rw [e1,e2];exact W
variable{lm:List (Int×A3)}
theorem oH(Z:(lm.map (·.1)).Nodup)(h:dI vs lm M)(x:Int×QM)(O:x.2.kd=7):
 ∃s B,Bd 1 3 ((EK x.2.ot lm).getD (.slice none 0 0)) (FU vs x.2.ot).length ((FU vs x.2.ot).map fun i=>Value.int .i64 i) s/\M.Perm (s++B)/\∀(I:A3) (G:List A9) (m:List (Int×A3)),(m.map (·.1)).Nodup->(∀p,p∈m↔p=(x.2.ot,I)\/(p∈lm/\p.1≠x.2.ot))->
  Bd 1 3 I (FU vs x.2.ot++[x.1]).length ((FU vs x.2.ot++[x.1]).map fun i=>Value.int .i64 i) G->dI (vs++[x]) m (G++B):=by
 obtain ⟨s,B,U,h2,W⟩:=Qc Z h x.2.ot;refine ⟨s,B,U,h2,fun I G m J hp hr=>?_⟩;have X:=W I G _ _ m J hp hr
 have e1:(fun k=>(FU (vs++[x]) k).length)=fun k=>if k=x.2.ot then(FU vs x.2.ot++[x.1]).length else(FU vs k).length:=funext fun k=>by
  rw [O5];simp only [O,W6];split<;>rfl
 have e2:(fun k=>(FU (vs++[x]) k).map fun i=>Value.int .i64 i)=fun k=>if k=x.2.ot then(FU vs x.2.ot++[x.1]).map fun i=>Value.int .i64 i else(FU vs k).map fun i=>Value.int .i64 i:=funext fun k=>by
  rw [O5];simp only [O,W6];split<;>rfl
 unfold dI;rw [e1,e2];exact X
theorem oI(h:dI vs lm M)(x:Int×QM)(m:x.2.kd≠7):dI (vs++[x]) lm M:=by
 have e:FU (vs++[x])=FU vs:=funext fun t=>by rw [O5,An (fun h=>m h.1)]
 unfold dI;rw [e];exact h
theorem lJ(q:QM)(B:BF q):BZ prog 147 #[.agg q.A98] [] (fun r H'=>r= .tuple #[I4 q.tb,I4 q.cl,I4 q.lo,I4 q.hi]/\H'=[]):=by
 refine Se func147 ntmps147 [0] ?_;intro u R;refine A0<|Ze (Bx #[_,_,_,_,_,_,_])<|AG fun G=>Za Y<|Za Y<|Za Y<|A4 Y<|Zq<|A0<|Zo Wh (AA (cs:=q.A98) F2 CN Y Wn (BK V))<|Xr [_] Y call35 Y V (Jg q)<|Zv (Cn Y)<|A5<|AU Y (fun m=>?_) (fun m=>?_);·
  exfalso;simp [B]at m
 refine AC<|Zx<|Zq<|Az (n:=12) (0::1::0::4::0::16::0::64::3::271::831::2047::[]) 0 AE AE V<|A2 0 V (AB (off:=1) CT V rfl A6 Y)<|B9 1 V AF Y<|A2 2 V (AB (off:=2) CT V rfl A6 Y)<|B9 3 V AF Y<|A2 4 V (AB (off:=3) CT V rfl A6 Y)<|B9 5 V AF Y<|A2 6 V (AB (off:=4) CT V rfl A6 Y)<|B9 7 V AF Y<|A2 8 V (Aw Y)<|A2 9 V (Aw Y)<|A2 10 V (Aw Y)<|A2 11 V (Aw Y)<|Ag<|Zn [2,3,4,5] ?_;refine Zx<|AJ<|jk V results147 Y Y Y Y (by exact ⟨V,V⟩)
def dF(lm:List (Int×A3))(js:List Nat)(vs:List (Int×QM)):Prop:=vs.length=js.length/\∀x,x∈vs↔∃j∈js,lm[j]?=some (x.1,(.agg #[I4 x.2.kd,I4 x.2.tb,I4 x.2.cl,I4 x.2.lo,I4 x.2.hi,I4 x.2.bq,I4 x.2.ot]:A3))
variable{js:List Nat}{j:Nat}
theorem eD(h:dF lm js vs){x:Int×QM}(m:lm[j]?=some (x.1,(.agg #[I4 x.2.kd,I4 x.2.tb,I4 x.2.cl,I4 x.2.lo,I4 x.2.hi,I4 x.2.bq,I4 x.2.ot]:A3))):dF lm (js++[j]) (vs++[x]):=by
 refine ⟨by rw [BW,BW,h.1];rfl,fun y=>?_⟩;rw [Bm,h.2];constructor
 · rintro (⟨i,hi,hy⟩|hy)
   · exact ⟨i,E7 _ hi,hy⟩
   · rw [C1.1 hy];exact ⟨j,by simp,m⟩
 · rintro ⟨i,hi,hy⟩
   rcases Bm.1 hi with hi|hi
   · exact .inl ⟨i,hi,hy⟩
   · rw [C1.1 hi,m]at hy
     injection hy with hy
     refine .inr (C1.2 ?_);obtain ⟨a,q⟩:=x;obtain ⟨b,r⟩:=y;obtain ⟨B,q2,G,I,J,O,U⟩:=q;obtain ⟨r1,W,X,Z,r5,r6,r7⟩:=r;simp at hy;simp [hy]
theorem Tv(vs:List (Int×QM))(k:Int×Int):(Ed vs k).length<=vs.length:=by unfold Ed;rw [B8];exact ON _ _
def RO(o l:List IvM):Prop:=∃o':List IvM,o'.Perm o/\(o'.Pairwise fun a b=>a.lo<=b.lo)/\l.map O4=o'.map O4/\pU l l.length
variable{lmA:List ((Int×Int)×A3)}{pn:(Int×Int)×A3}
theorem nC(G:(lmA.map (·.1)).Nodup)(m:lmA[j]?=some pn)(p:(Int×Int)×A3):p∈lmA↔p=(pn.1,pn.2)\/(p∈lmA/\p.1≠pn.1):=by
 constructor
 · intro B
   by_cases h:p.1=pn.1
   · obtain ⟨i,hi⟩:=HE B
     obtain rfl:=LU G hi m h;rw [m]at hi;injection hi with hi;exact .inl hi.symm
   · exact .inr ⟨B,h⟩
 · rintro (rfl|⟨h,_⟩)
   · exact Dg m
   · exact h
variable{ks:List Nat}
theorem eB{I G:List ((Int×Int)×A3)}(O:(lmA.map (·.1)).Nodup)(B:lmA[j]?=some pn)(J:¬j∈ks)(X:∀p,p∈I↔∃k∈ks,lmA[k]?=some p)(W:∀p,p∈G↔p=(pn.1,pn.2)\/(p∈I/\p.1≠pn.1))(p:(Int×Int)×A3):p∈G↔∃k∈ks++[j],lmA[k]?=some p:=by
 rw [W,X];constructor
 · rintro (rfl|⟨⟨k,O,m⟩,hne⟩)
   · exact ⟨j,by simp,B⟩
   · exact ⟨k,E7 _ O,m⟩
 · rintro ⟨k,U,m⟩
   rcases Bm.1 U with hk1|hk1
   · refine .inr ⟨⟨k,hk1,m⟩,fun Z=>J ?_⟩
     obtain rfl:=LU O m B Z;exact hk1
   · rw [C1.1 hk1,B]at m;injection m with m;exact .inl m.symm
variable{g:Int×Int->List IvM}
theorem iO(U:(lmA.map (·.1)).Nodup)(B:lmA[j]?=some pn)(G:¬j∈ks){f:Int×Int->List IvM}{l2:List IvM}(J:∀i p,lmA[i]?=some p->if i∈ks then RO (f p.1) (g p.1)else g p.1=f p.1)(h2:RO (g pn.1) l2):
 ∀i p,lmA[i]?=some p->if i∈ks++[j]then RO (f p.1) ((fun k=>if k=pn.1 then l2 else g k) p.1)else(fun k=>if k=pn.1 then l2 else g k) p.1=f p.1:=by
 intro i p hi;have h:=J i p hi
 by_cases m:i=j
 · subst m
   rw [B]at hi;injection hi with hi;subst hi
   rw [An G]at h;rw [Ax B4];simp only [Hj];rw [<-h];exact h2
 · have I:p.1≠pn.1:=fun O=>m (LU U hi B O)
   simp only [An I,Bm,C1,m,PF];exact h
theorem yh{lm:List ((Int×Int)×A3)}{l2:List IvM}{m:Int×Int}(h:Ud 4 273 lm (fun x=>if x=m then l2.length else(g x).length) (fun x=>if x=m then CO l2 else CO (g x)) M):Ud 4 273 lm (fun k=>((fun k=>if k=m then l2 else g k) k).length) (fun k=>CO ((fun k=>if k=m then l2 else g k) k)) M:=by
 have e1:(fun k=>((fun k=>if k=m then l2 else g k) k).length)=fun x=>if x=m then l2.length else(g x).length:=funext fun k=>by
  show(if k=m then l2 else g k).length=_;split<;>rfl
 have e2:(fun k=>CO ((fun k=>if k=m then l2 else g k) k))=fun x=>if x=m then CO l2 else CO (g x):=funext fun k=>by
  show CO (if k=m then l2 else g k)=_;split<;>rfl
 rw [e1,e2];exact h
theorem aX(vs:List (Int×QM))(t:Int):(FU vs t).length<=vs.length:=by unfold FU;rw [B8];exact ON _ _
def Il(c:Chg)(i:Nat):List AX:=(if 1<=i/\c.had=true then [⟨c.t,c.k,c.o⟩]else [])++(if 2<=i/\c.has=true then [⟨c.t,c.k,c.n⟩]else [])
def FM(c:Chg):List AX:=Il c 2
theorem qi(c:Chg)(i:Nat)(h:i<2):∃(fi:Nat) (rv:AX) (vb:Bool),(#[.func (.func 222) #[] #[],.func (.func 136) #[] #[]]:AH)[i]?=some (.func (.func fi) #[] #[])/\(∀(args:AH) (w:AD),(callFunc fi args).run prog w= .ok (.enter fi args) w)/\
 BB prog fi #[.agg c.A96] [] (.tuple #[.agg rv.A97,.bool vb])/\(vb=true->Il c (i+1)=Il c i++[rv]/\∃m,FM c=Il c i++rv::m)/\(vb=false->Il c (i+1)=Il c i):=by
 rcases (by omega:i=0\/i=1)with rfl|rfl
 · refine ⟨_,_,c.had,rfl,call222,VS c,fun hv=>?_,fun hv=>?_⟩
   · unfold FM Il EP;simp [hv]
   · unfold Il;simp [hv]
 · refine ⟨_,_,c.has,rfl,call136,Oo c,fun hv=>?_,fun hv=>?_⟩
   · unfold FM Il EP;simp [hv]
   · unfold Il;simp [hv]
theorem iU(c:Chg):BZ prog 159 #[.agg c.A96] [] (fun r H'=>∃b,r= .func (.func 225) #[] #[I5 b]/\H'=[[(b,.cells c.A96 64 (0,0))]]):=by
 refine Se func159 ntmps159 [0] ?_;intro u R;refine A0<|Ze (Es Y (cs:=c.A96) AE)<|AG fun b=>A4 Y<|A0<|Zv (Bh (vs:=[]) (us:=[_]) Y Y)<|A4 Y<|AJ<|AO V results159 Y (by exact ⟨_,V,V⟩)
theorem iV(c:Chg)(b:Nat):FD prog 225 #[I5 b] [[(b,.cells c.A96 64 (0,0))]] (fun _=>True) (fun x:AX=>#[.agg x.A97]) (FM c):=by
 intro l J hA hy s I;refine Se func225 ntmps225 [0,1] ?_;intro u R;refine A0<|Ze (Ai (vs:=[_,_]) (cs:=[_,_]) underlying326 sizeOf150 zeroValue150 Y V rfl V rfl V)<|AG fun bf=>Zv (AY underlying326 Y)<|Zm Y<|A5<|AQ<|Zb [9,0,1,7,8] ?_;refine BA (e0:=[(9,_)]) (fun m e H=>∃(i:Nat) (s:List A9),m=2 -i/\(i<=2/\J (Il c i) s)/\e=[(9,I4 (i:Int))]/\H=[s]) (by exact ⟨0,s,V,⟨by decide,I⟩,V,V⟩) Wp ?_;rintro _ _ _ ⟨i,s,rfl,⟨hi,I⟩,rfl,rfl⟩;refine A0<|Zv (Au Y Y)<|A5<|Zq<|Aq Y (fun af=>?_) (fun af=>?_);·
  obtain ⟨fi,rv,vb,X,Z,ax,O,U⟩:=qi c i A1;refine AC<|Zx<|Zq<|AQ<|A0<|BV (BU underlying326 sizeOf150 Y Y A1)<|Zl isAgg150 Y (hv:=by exact X) ?_;refine A4 Y<|A0<|Zm Y<|Zo Wh (Pa #[_,_,_,_,_,_,_,_,_,_] G2 C7 Y) ?_;refine Xr [_] Y (Z) Y V (ax) ?_;refine Zm Y<|Zd Y V<|Zd Y V<|Ze (Al F0 #[_,_,_,_,_])<|AG fun br=>Xe (Xw B0 _) ?_;refine AN Y<|Zn [0,1,5,6,7,8,9] ?_;refine Zx<|A0<|Zm Y<|Zm Y<|Ae (t:=20) Y V (fun G=>?_) (fun G=>?_);·
   obtain ⟨hu,cu,B⟩:=O G;have bn:=hy _ _ _ s B I
   refine Zf Y Y<|Db Y Wh (Pa #[_,_,_,_,_] D0 B0 Y) V rfl ?_;refine Ze (Ga (vs:=[_]) Y Y (bn) Wp) ?_;rintro _ _ ⟨_,⟨s',rfl,rfl,W⟩,rfl⟩;refine Yg (Br Y)<|Zv (AV Y Y)<|A5<|AU Y (fun hb=>by cases hb)<|fun hb=>AC<|A8<|Zx<|Zg<|Ya (n:=1) Y Y<|Zm Y<|Z0<|Zn [9,0,1,7,8] ?_;refine Ab (e':=[(9,_)]) (by exact ⟨i+1,s',rfl,⟨by omega,by rw [hu];exact W⟩,rfl,rfl⟩)
  have hu:=U G;refine A7 Y V<|A7 Y V<|A7 Y V<|A7 Y V<|Zv (AL Y Y)<|A5<|D9 Y<|AC<|A8<|Zx<|Zg<|Ya (n:=1) Y Y<|Zm Y<|Z0<|Zn [9,0,1,7,8] ?_;refine Ab (e':=[(9,_)]) (by exact ⟨i+1,s,rfl,⟨by omega,by rw [hu];exact I⟩,rfl,rfl⟩)
 obtain rfl:i=2:=by omega
 refine Ay<|Zt<|Zt<|AR<|Cw V results225 (by exact ⟨s,V,I⟩)
theorem TG:Fv prog 270 K2 KD:=Fv.ofLaw (deep_law (m:=3) (by decide) (by kernel_rfl) (by kernel_rfl) (by kernel_rfl)) (by
 rintro ⟨a,b⟩ ⟨I,J⟩;have G:Tryz.prog.types.size+1=(Tryz.prog.types.size -1)+1+1:=by
  have:0<Tryz.prog.types.size:=I0 AE;omega
 have hc:Tryz.prog.cellsOf 3=1:=by kernel_rfl
 have B:Tryz.prog.cellsOf 270=2:=by kernel_rfl
 have W:Tryz.prog.keyType 270=true:=by kernel_rfl
 have U:(K2 (a,b)).formed prog 270=true:=by
  unfold Value.formed K2;rw [gx];simp [B]
 unfold keyOf;rw [gx];simp only [W,U,Bool.and_self,Hj];obtain ⟨d,O⟩:∃d,Tryz.prog.types.size+1=d+1+1:=⟨_,G⟩;rw [O];unfold Program.keyLits;rw [gx];have X:=PR prog d a CM I
 have Z:=PR prog d b CM J;simp [K2,Value.cells,hc,B,X,Z]) wS
def wT(M:List A9)(v:A3)(l:List Int):Prop:=∃p cap,v= .slice p l.length cap/\(l.length<=maxLen/\l.length<=cap)/\∀(i:Nat) (x:Int),l[i]?=some x->∃g off cur T zz,p=some ⟨g,off,none⟩/\(g,Obj.cells cur T zz)∈M/\cur[off+i]?=some (I4 x)
variable{v:A3}
theorem wT.mono{m:List A9}{l:List Int}(h:wT M v l)(O:∀c∈M,c∈m):wT m v l:=by
 obtain ⟨p,cap,e,J,I⟩:=h;refine ⟨p,cap,e,J,fun i x hx=>?_⟩;obtain ⟨g,off,cur,T,zz,B,h2,G⟩:=I i x hx;exact ⟨g,off,cur,T,zz,B,O _ h2,G⟩
structure Pt(sc:Int->Int->List IvM)(jn:Int->List Int)(lp:Nat)(ML:List A9):Prop where
 ex:∃ms ess cks lms mj esj ckj lmj,(lp,Obj.cells #[.map (some ms),.map (some mj)] 268 (0,0))∈ML/\(ms,Obj.map ess cks)∈ML/\Cm K2 ess cks lms/\(∀p∈lms,KD p.1)/\(mj,Obj.map esj ckj)∈ML/\Cm (fun n:Int=>Value.int .i64 n) esj ckj lmj/\
  (∀a b,Ub ML ((EK (a,b) lms).getD (.slice none 0 0)) (sc a b))/\(∀t,wT ML ((EK t lmj).getD (.slice none 0 0)) (jn t))
 asc:∀a b,(sc a b).Pairwise fun x y=>x.lo<=y.lo
 len:∀a b,(sc a b).length<=1000000
def IY(sc:Int->Int->List IvM)(t:Int)(r:AX)(n:Nat):List Int:=(List.range n).flatMap fun col=>Iz (Di r col) (sc t (col:Int))
def NZ(sc:Int->Int->List IvM)(jn:Int->List Int)(c:Chg):List Int:=((FM c).flatMap fun r=>IY sc c.t r 4)++jn c.t
theorem SX(sc:Int->Int->List IvM)(t:Int)(r:AX)(n:Nat):IY sc t r (n+1)=IY sc t r n++Iz (Di r n) (sc t (n:Int)):=by
 unfold IY;rw [kB,Pu];simp
theorem qc(sc:Int->Int->List IvM)(t:Int)(r:AX)(h:n<4):∃m,IY sc t r 4=IY sc t r n++Iz (Di r n) (sc t (n:Int))++m:=by
 rcases (by omega:n=0\/n=1\/n=2\/n=3)with rfl|rfl|rfl|rfl<;>simp only [SX,D3]<;>first|exact ⟨_,rfl⟩|(refine ⟨[],?_⟩;simp)
variable{sc:Int->Int->List IvM}{jn:Int->List Int}{c:Chg}
theorem gH{pre B:List AX}{x:AX}(h:FM c=pre++x::B)(hn:n<4){G m:List Int}{id:Int}(h2:Iz (Di x n) (sc c.t (n:Int))=G++id::m):
 ∃I,NZ sc jn c=((pre.flatMap fun r=>IY sc c.t r 4)++IY sc c.t x n++G)++id::I:=by
 obtain ⟨O,J⟩:=qc sc c.t x hn;unfold NZ;rw [h,Pu,HW,J,h2];exact ⟨m++O++(B.flatMap fun r=>IY sc c.t r 4)++jn c.t,by simp⟩
theorem Y0(v:A3)(x:Int)(B:v.oneCell'=true):BZ prog 160 #[v,I4 x] [] (fun r H'=>∃bl m,r= .func (.func 226) #[] #[I5 bl,I5 m]/\H'=[[(bl,.cells #[v] 274 (0,0))],[(m,.cells #[I4 x] 3 (0,0))]]):=by
 refine Se func160 ntmps160 [0,1] ?_;intro u R;refine A0<|Ze (Es Y (cs:=#[v]) (by cases v<;>first|rfl|simp [Value.oneCell']at B))<|AG fun bl=>Ze (Bx #[_])<|AG fun m=>A4 Y<|A0<|Zv (Bh (vs:=[]) (us:=[_,_]) Y Y)<|A4 Y<|AJ<|AO V results160 Y (by exact ⟨bl,m,V,V⟩)
theorem mZ(lp:Nat)(c:Chg):BZ prog 103 #[I5 lp,.agg c.A96] [] (fun r H'=>∃bl m,r= .func (.func 158) #[] #[I5 m,I5 bl]/\H'=[[(bl,.cells #[I5 lp] 161 (0,0))],[(m,.cells c.A96 64 (0,0))]]):=by
 refine Se func103 ntmps103 [0,1] ?_;intro u R;refine A0<|Ze (Bx #[_])<|AG fun bl=>Ze (Es Y (cs:=c.A96) AE)<|AG fun m=>A4 Y<|A0<|Zv (Bh (vs:=[]) (us:=[_,_]) Y Y)<|A4 Y<|AJ<|AO V results103 Y (by exact ⟨bl,m,V,V⟩)
variable{lp:Nat}{ML:List A9}
theorem mg(hL:Pt sc jn lp ML)(c:Chg)(p9:∀r∈FM c,∀n:Nat,n<4->-1000000000000<=Di r n/\Di r n<=1000000000000)(pg:-9223372036854775808<=c.t/\c.t<=9223372036854775807)(w9:(jn c.t).length<=1000000)(bc bl:Nat):FD prog 158 #[I5 bc,I5 bl] [[(bc,.cells c.A96 64 (0,0))],[(bl,.cells #[I5 lp] 161 (0,0))]] (fun s=>∀x∈ML,x∈s) (fun i:Int=>#[I4 i]) (NZ sc jn c):=by
 have wo:=mL;obtain ⟨ms,vw,ve,y5,mj,vo,sO,x9,bn,qx,gq,qa,qw,gm,ax,pz⟩:=hL.ex;intro ly J hA hy s B;refine DT func158 V ntmps158 V ?_;intro u R;refine Zb [0,1,2] ?_;refine A0<|Ze (Bx #[_])<|AG fun by_=>A5<|Zq<|A0<|Zo Wh (Pa #[_,_,_,_,_,_,_,_,_,_] G2 C7 Y) ?_;refine Zc [_] Y call159 Y V (iU c) ?_;rintro _ _ ⟨_,⟨br,rfl,rfl⟩,rfl⟩;refine A5<|AQ<|Zb [1,2,3,10] ?_;refine Pp (H0:=_) (R:=_) (I:=(fun(pre:List AX) H=>∃s,J (pre.flatMap fun r=>IY sc c.t r 4) s/\H=[[(bc,.cells c.A96 64 (0,0))],[(bl,.cells #[I5 lp] 161 (0,0))],[(by_,.cells #[.func (.yield ly) #[] #[]] 78 (0,0))],s])) (E:=fun x e Hn=>∃bw,e=[(4,I5 bw),(11,.agg x.A97)]/\Hn=[[(bw,.cells x.A97 72 (0,0))]]) V Y call225 (iV c br) (fun _ _ _ _ _=>trivial) Y V Wp (⟨s,B,V⟩) ?ha_2 ?hbd_2 ?hk_2
 case ha_2=>
  intro _ x _ _;refine Zg<|Ze (Al F0 #[_,_,_,_,_])<|AG fun b2=>Xe (Xw B0 _) ?_;refine Z0<|MG (e:=[(4,_),(11,_)]) (Hn:=[[(_,_)]]) ?_;exact ⟨_,V,V⟩
 case hbd_2=>
  intro l pre x l8 u e9 l9 H1 R1 r9 O hI W;obtain ⟨bw,rfl,rfl⟩:=W;obtain ⟨s,B,rfl⟩:=hI;have kv:=O
  refine AQ<|A0<|Zm Y<|A5<|AQ<|Zb [12,1,2,3,4] ?_;refine BA (e0:=[(12,_)]) (fun m e H=>∃(n:Nat) (s:List A9),m=4 -n/\(n<=4/\J ((pre.flatMap fun r=>IY sc c.t r 4)++IY sc c.t x n) s)/\e=[(12,I4 (n:Int))]/\H=[s]) (by exact ⟨0,s,rfl,⟨by decide,by rw [show IY sc c.t x 0=[] from rfl,DG];exact B⟩,rfl,rfl⟩) Wp ?_;rintro _ _ _ ⟨n,s,rfl,⟨wz,B⟩,rfl,rfl⟩;refine A0<|Zv (Au (n:=4) Y Y)<|A5<|Zq<|Aq Y (fun qj=>?_) (fun qj=>?_);·
   have j5:=hA _ s B;have cO:=j5 _ bn
   have gy:=j5 _ qx;obtain ⟨pv,cv,ic,_,_⟩:=ax c.t (n:Int);have sJ:x∈FM c:=by rw [O];simp
   have sw:=p9 x sJ n A1;have q9:KD (c.t,(n:Int)):=⟨VE pg,VE A1⟩
   have d9:n<4:=by omega
   refine AC<|Zx<|Zq<|AQ<|A0<|Zm Y<|A4 Y<|Zq<|Az (n:=13) (0::1::3::7::0::16::0::112::255::0::0::1536::4095::[]) 6144 AE AE V<|B9 0 V isAgg161 Y ?_;refine A2 1 V (Ap Y V)<|A2 2 V (AB (off:=0) fy V rfl sizeOf265 Y)<|Ce (D':=15) 3 V rfl V (FR Wo (cO)) (BO isAgg265 Y As) ?_;refine A2 4 V (AB (off:=0) C0 V rfl A6 Y)<|B9 5 V AF Y ?_;refine A2 6 V (AP Y)<|A2 7 V (BL (vs:=[(0,_),(1,_)]) (cs:=#[_,_]) Y (AZ (pl:=#[(0,1),(1,1)]) lR gx (fun _=>by kernel_rfl) V))<|Ce (D':=511) 8 V rfl V (FR Wo (gy)) (Df TG underlying265 zeroValue274 gq qa (q9) (ic) Y Y) ?_;refine Fk 9 V Wh (AA (cs:=#[_,_,_,_,_]) D0 B0 Y B1 As) ?_;refine A2 10 V (AP Y)<|Zz (l:=[11])<|B5 [false,true,true,true,true] [(8,(_,_)),(5,(_,_)),(3,(_,_)),(0,(_,_))] V rfl (Zu [_,_] Y Sx Y V (Om x n A1)) ?_ (fun _ _ h=>h.elim) Ah;rintro _ _ ⟨rfl,rfl⟩;refine ⟨FL (by simp [*]) (Zk (FL (by simp [*]) (Zk (Aa)))),?_⟩;refine Zz (l:=[12])<|B5 [false,false,false,false] [] V rfl (Zw [_,_] Y call160 Y V (Y0 (.slice pv (sc c.t (n:Int)).length cv) (Di x n) V)) ?_ Bw Ah;rintro _ _ ⟨_,⟨o8,o9,rfl,rfl⟩,rfl⟩;refine BT<|Ag<|Zn [1,2,3,4,12,27] ?_;refine Zx<|AQ<|Zb [1,2,3,4,12,27] ?_;refine jB (H0:=_) (R:=_) (I:=(fun(U:List Int) H=>∃s,J ((pre.flatMap fun r=>IY sc c.t r 4)++IY sc c.t x n++U) s/\H=[[(by_,.cells #[.func (.yield ly) #[] #[]] 78 (0,0))],s])) (E:=fun x e Hn=>e=[(6,I4 x),(28,I4 x)]/\Hn=[]) rfl Wh Y call226 (Y1 (ic▸ax c.t (n:Int)) (hL.len _ _) (hL.asc _ _) (Di x n) sw o8 o9) (by rintro U _ c9 ⟨s,h1,rfl⟩;intro q hq;have:=hA _ s h1 q hq;simp [this]) Y rfl Wp (⟨s,by simpa using B,rfl⟩) ?ha_7 ?hbd_7 ?hk_7
   case ha_7=>
    intro _ x _ _;refine Zg<|AN Y<|MG (e:=[(6,_),(28,_)]) (Hn:=[]) ?_;exact ⟨V,V⟩
   case hbd_7=>
    intro l pre x l8 u e9 l9 H1 R1 r9 O hI W;obtain ⟨rfl,rfl⟩:=W;obtain ⟨s,B,rfl⟩:=hI;obtain ⟨sM,qz⟩:=gH (jn:=jn) kv d9 O;have af:=hy _ _ _ s qz B
    refine AQ<|A0<|Zl isAgg78 Y ?_;refine Zm Y<|Ze (Ga (vs:=[_]) Y Y (af) Wp) ?_;rintro _ _ ⟨_,⟨s',rfl,rfl,Z⟩,rfl⟩;refine Zv (Br Y)<|A5<|AU Y (fun hb=>by cases hb)<|fun hb=>AC<|A8<|F7 rfl (by exact ⟨s',by rw [<-D3];exact Z,rfl⟩)
   intro H2 X;obtain ⟨s,B,rfl⟩:=X;refine Zn [1,2,3,4,12] ?_;refine A8<|A8<|Zx<|Zg<|Ya (n:=1) Y Y<|Zm Y<|Z0<|Zn [12,1,2,3,4] ?_;refine Ab (e':=[(12,_)]) (by exact ⟨n+1,s,rfl,⟨by omega,by rw [SX,<-D3];exact B⟩,rfl,rfl⟩)
  obtain rfl:n=4:=by omega
  refine Ay<|Zt<|Zt<|AR<|A8<|F7 rfl (by exact ⟨s,by rw [Pu,oe];exact B,rfl⟩)
 intro D1 H2 X;obtain ⟨s,B,rfl⟩:=X;refine Zn [1,2,3] ?_;refine A8<|Zx<|Zq ?_;have j3:=hA _ s B
 have cu:=j3 _ bn;have ek:=j3 _ qw
 obtain ⟨pj,cj,sj,⟨wh,vz⟩,pq⟩:=pz c.t;refine Az (n:=9) (0::1::3::7::0::16::63::127::0::[]) 0 AE AE V<|B9 0 V isAgg161 Y ?_;refine A2 1 V (Ap Y V)<|A2 2 V (AB (off:=1) fy V rfl sizeOf266 Y)<|Ce (D':=15) 3 V rfl V (FR Wo (cu)) (BO isAgg266 Y As) ?_;refine A2 4 V (AB (off:=0) C0 V rfl A6 Y)<|B9 5 V AF Y ?_;refine Ce (D':=127) 6 V rfl V (FR Wo (ek)) (Df (CY CM (D:=fun _=>True)) underlying266 zeroValue31 gm (fun _ _=>trivial) (trivial) (sj) Y Y) ?_;refine A2 7 V (AY DH Y)<|A2 8 V (AP Y)<|Ag<|Zx<|AQ<|Zb [42,3,40,41] ?_;refine BA (e0:=[(42,_)]) (fun m e H=>∃(k:Nat) (s:List A9),m=(jn c.t).length -k/\(k<=(jn c.t).length/\J ((FM c).flatMap (fun r=>IY sc c.t r 4)++(jn c.t).take k) s)/\e=[(42,I4 (k:Int))]/\H=[s]) (by exact ⟨0,s,V,⟨C5 _,by simpa using B⟩,V,V⟩) Wp ?_;rintro _ _ _ ⟨k,s,rfl,⟨hk,B⟩,rfl,rfl⟩;refine A0<|Zv (Au Y Y)<|A5<|Zq<|Aq Y (fun qb=>?_) (fun qb=>?_);·
  obtain ⟨l5,G⟩:∃x,(jn c.t)[k]?=some x:=⟨_,B7 A1⟩;obtain ⟨g,off,cur,T,zz,rfl,qo,p8⟩:=pq k l5 G;have ql:=hA _ s B _ qo
  have af:=hy _ _ _ s (show NZ sc jn c=((FM c).flatMap (fun r=>IY sc c.t r 4)++(jn c.t).take k)++l5::(jn c.t).drop (k+1) by unfold NZ;rw [D3,<-Od G]) B;refine AC<|Zx<|Zq<|AQ<|A0<|BV (CF DH A6 Y Y e5)<|CG (Gd Wo (ql)) (BO AF Y p8) rfl rfl ?_;refine A4 Y<|A0<|Zl isAgg78 Y ?_;refine Zm Y<|Ze (Ga (vs:=[_]) Y Y (af) Wp) ?_;rintro _ _ ⟨_,⟨s',rfl,rfl,Z⟩,rfl⟩;refine Zv (Br Y)<|A5<|AU Y (fun hb=>by cases hb)<|fun hb=>AC<|A8<|Zx<|Zg<|Ya (n:=1) Y Y<|Zm Y<|Z0<|Zn [42,3,40,41] ?_;refine Ab (e':=[(42,_)]) (by exact ⟨k+1,s',rfl,⟨by omega,by rw [Bn G,<-D3];exact Z⟩,rfl,rfl⟩)
 obtain rfl:k=(jn c.t).length:=by omega
 rw [GS]at B;refine Ay<|Zt<|Zt<|AR<|GR V (o4 results158) Wo (by exact ⟨s,V,B⟩)
theorem aQ(h:l[i]?=some x):((CO l).drop (i*4)).take 4=[I4 x.lo,I4 x.hi,I4 x.rc,I4 x.id]:=by
 induction l generalizing i with
 |nil=>simp at h
 |cons a l ih=>
  cases i with
  |zero=>simp at h;subst h;rfl
  |succ i=>
   have m:l[i]?=some x:=by simpa using h
   rw [show(i+1)*4=i*4+4 by omega];exact ih m
theorem aN{s:List A9}(h:Bd 4 273 v l.length (CO l) s)(U:∀c∈s,c∈M):Ub M v l:=by
 rcases h with⟨_,⟨rfl,h0,_⟩|⟨g,cap,cur,z,rfl,rfl,B,I,J,G,O⟩⟩
 · have m:=MT h0
   subst m;exact ⟨none,0,V,⟨C5 _,D2 _⟩,fun i x hx=>by simp at hx⟩
 · refine ⟨_,cap,rfl,⟨by omega,B⟩,fun i x hx=>?_⟩
   have hi:=(C4.1 hx).1;refine ⟨g,0,cur,_,z,V,U _ (C1.2 V),by omega,?_⟩;have m:=aQ hx
   rw [<-G,fj,V2]at m;apply HX.1;rw [Array.toList_extract,sL,DM,show i*4+4 -i*4=4 by omega];rw [show min 4 (l.length*4 -i*4)=4 by omega]at m;exact m
theorem aW{l:List Int}{s:List A9}(h:Bd 1 3 v l.length (l.map fun i=>Value.int .i64 i) s)(U:∀c∈s,c∈M):wT M v l:=by
 rcases h with⟨_,⟨rfl,h0,_⟩|⟨g,cap,cur,z,rfl,rfl,B,I,J,G,O⟩⟩
 · have m:=MT h0
   subst m;exact ⟨none,0,V,⟨C5 _,D2 _⟩,fun i x hx=>by simp at hx⟩
 · refine ⟨_,cap,rfl,⟨by omega,B⟩,fun i x hx=>?_⟩
   have hi:=(C4.1 hx).1;refine ⟨g,0,cur,_,z,V,U _ (C1.2 V),?_⟩;have m:(l.map fun i=>Value.int .i64 i)[i]?=some (I4 x):=by rw [E0,hx];rfl
   rw [<-G,HJ,Ax A1]at m;simpa using m
structure JV(qs:List (Int×QM))(sc:Int->Int->List IvM)(jn:Int->List Int):Prop where
 scan:∀a b v i,i∈Iz v (sc a b)↔∃x∈qs,x.1=i/\plQ x=(a,b)/\x.2.lo<=v/\v<=x.2.hi
 join:∀t i,i∈jn t↔∃x∈qs,x.1=i/\x.2.kd=7/\x.2.ot=t
 small:∀t,(jn t).length<=1000000
theorem tf{x y:Int×QM}(h:(x.1,(.agg #[I4 x.2.kd,I4 x.2.tb,I4 x.2.cl,I4 x.2.lo,I4 x.2.hi,I4 x.2.bq,I4 x.2.ot]:A3))=(y.1,(.agg #[I4 y.2.kd,I4 y.2.tb,I4 y.2.cl,I4 y.2.lo,I4 y.2.hi,I4 y.2.bq,I4 y.2.ot]:A3))):x=y:=by
 obtain ⟨a,q⟩:=x;obtain ⟨b,r⟩:=y;obtain ⟨m,q2,B,G,I,J,O⟩:=q;obtain ⟨r1,U,W,X,Z,r6,r7⟩:=r;simp at h;simp [h]
variable{qs:List (Int×QM)}{es:Array MapEntry}{ck:Nat}
theorem qY(m:Eg qs es ck lm)(I:dF lm js vs)(J:(DV lm js).Perm lm)(x:Int×QM):x∈vs↔x∈qs:=by
 rw [I.2];constructor
 · rintro ⟨j,_,G⟩
   obtain ⟨y,hy,B⟩:=(m.mem _).1 (Dg G);rw [tf B];exact hy
 · intro hx
   have h:=J.mem_iff.2 ((m.mem _).2 ⟨x,hx,rfl⟩);obtain ⟨j,G,B⟩:=ar.1 h;exact ⟨j,G,B⟩
theorem mr{κ:Type} [DecidableEq κ]{l m:List (κ×A3)}(J:(l.map (·.1)).Nodup)(O:(m.map (·.1)).Nodup)(h:∀p,p∈l↔p∈m)(k:κ):EK k l=EK k m:=by
 by_cases G:∃v,(k,v)∈l
 · obtain ⟨v,hv⟩:=G
   rw [Cy J hv,Cy O ((h _).1 hv)]
 · rw [Da (l:=l) fun p I B=>G ⟨p.2,by rw [<-B];exact I⟩,Da (l:=m) fun p I B=>G ⟨p.2,by rw [<-B];exact (h p).2 I⟩]
theorem oU(h:RO o l)(v i:Int):i∈Iz v l↔∃x∈o,x.lo<=v/\v<=x.hi/\x.id=i:=by
 obtain ⟨o',B,U,m,O⟩:=h;rw [ol (aI m U) O];constructor
 · rintro ⟨x,hx,I,h2,J⟩
   obtain ⟨y,hy,e1,e2,G⟩:=(aH (a:=x.lo) (b:=x.hi) (i:=x.id) m).1 ⟨x,hx,rfl,rfl,rfl⟩;exact ⟨y,B.mem_iff.1 hy,by omega,by omega,by omega⟩
 · rintro ⟨x,hx,I,h2,J⟩
   obtain ⟨y,hy,e1,e2,G⟩:=(aH (a:=x.lo) (b:=x.hi) (i:=x.id) m).2 ⟨x,B.mem_iff.2 hx,rfl,rfl,rfl⟩;exact ⟨y,hy,by omega,by omega,by omega⟩
theorem oV(h:RO o l):l.length=o.length:=by
 obtain ⟨o',G,J,B,I⟩:=h;have m:=congrArg List.length B
 rw [B8,B8]at m;rw [m];exact G.length_eq
theorem gM(l9:Eg qs es ck lm)(p8:js.length<=1000000)(Z:dF lm js vs)(ic:(DV lm js).Perm lm)
 {gm:List A9}(cO:(lmA.map (·.1)).Nodup)(j5:wV vs lmA gm){U:Array MapEntry}{J:Nat}{af:List (Int×A3)}{MJ:List A9}(l8:Cm (fun n:Int=>Value.int .i64 n) U J af)(kv:dI vs af MJ)
 {W:Array MapEntry}{O:Nat}{m:List ((Int×Int)×A3)}{MS:List A9}(d9:Cm K2 W O m)(gq:∀p∈lmA,KD p.1)(gy:∀p,p∈m↔∃k∈ks,lmA[k]?=some p)
 (ax:Ud 4 273 lmA (fun k=>(g k).length) (fun k=>CO (g k)) MS)(l5:∀j p,lmA[j]?=some p->if j∈ks then RO (Ed vs p.1) (g p.1)else g p.1=Ed vs p.1)(j3:(DV lmA ks).Perm lmA)
 {mz mj:Nat}(h1:(lp,Obj.cells #[.map (some mz),.map (some mj)] 268 (0,0))∈ML)(h2:(mz,Obj.map W O)∈ML)(h3:(mj,Obj.map U J)∈ML)(h4:∀c∈MS,c∈ML)(h5:∀c∈MJ,c∈ML):
 Pt (fun a b=>g (a,b)) (FU vs) lp ML/\JV qs (fun a b=>g (a,b)) (FU vs):=by
 have hv:=qY l9 Z ic;have cu:∀j p,lmA[j]?=some p->j∈ks:=fun j p hj=>by
  obtain ⟨i,hi,he⟩:=ar.1 (j3.mem_iff.2 (Dg hj));obtain rfl:=LU cO he hj rfl;exact hi
 have hS:∀p,p∈m↔p∈lmA:=fun p=>by
  rw [gy];constructor;· rintro ⟨k,_,hk⟩;exact Dg hk
  · intro B
    obtain ⟨i,hi⟩:=HE B;exact ⟨i,cu i p hi,hi⟩
 have bn:∀k,EK k m=EK k lmA:=mr d9.keys cO hS;have hD:∀k,RO (Ed vs k) (g k):=fun k=>by
  by_cases hk:∃v,(k,v)∈lmA
  · obtain ⟨v,o9⟩:=hk
    obtain ⟨i,hi⟩:=HE o9;have h:=l5 i _ hi
    rw [Ax (cu i _ hi)]at h;exact h
  · have hn:EK k lmA=none:=Da fun p B he=>hk ⟨p.2,by rw [<-he];exact B⟩
    obtain ⟨s,X,_⟩:=ax.row k;obtain ⟨s',ek,_⟩:=j5.row k;rw [hn]at X ek;have e1:(g k).length=0:=by
     rcases X with⟨_,⟨_,h,_⟩|⟨g9,cap,cur,z,h,_⟩⟩
     · exact h
     · simp at h
    have e2:(Ed vs k).length=0:=by
     rcases ek with⟨_,⟨_,h,_⟩|⟨g9,cap,cur,z,h,_⟩⟩
     · exact h
     · simp at h
    rw [MT e1,MT e2];exact ⟨[],.refl _,.nil,V,fun j k x y _ h=>absurd h (cX k)⟩
 refine ⟨⟨⟨mz,W,O,m,mj,U,J,af,h1,h2,d9,fun p B=>gq p ((hS p).1 B),h3,l8,fun a b=>?_,fun t=>?_⟩,fun a b=>?_,fun a b=>?_⟩,⟨fun a b v i=>?_,fun t i=>?_,fun t=>?_⟩⟩
 · obtain ⟨s,X,hs⟩:=ax.row (a,b)
   rw [bn];exact aN X fun c hc=>h4 c (hs c hc)
 · obtain ⟨s,X,hs⟩:=kv.row t
   exact aW X fun c hc=>h5 c (hs c hc)
 · obtain ⟨o',B,o8,hk,X⟩:=hD (a,b)
   exact aI hk o8
 · have:=oV (hD (a,b))
   have:=Tv vs (a,b);have:=Z.1
   show(g (a,b)).length<=1000000;omega
 · rw [oU (hD (a,b))]
   unfold Ed;simp only [C3,FF,G3];constructor
   · rintro ⟨_,⟨x,⟨hx,B⟩,rfl⟩,G,I,a3⟩
     exact ⟨x,(hv x).1 hx,a3,B,G,I⟩
   · rintro ⟨x,hx,a3,B,G,I⟩
     exact ⟨_,⟨x,⟨(hv x).2 hx,B⟩,V⟩,G,I,a3⟩
 · unfold FU
   simp only [C3,FF,G3];constructor
   · rintro ⟨x,⟨hx,G,I⟩,rfl⟩
     exact ⟨x,(hv x).1 hx,V,G,I⟩
   · rintro ⟨x,hx,rfl,G,I⟩
     exact ⟨x,⟨(hv x).2 hx,G,I⟩,V⟩
 · have:=aX vs t
   have:=Z.1;omega
variable{mp ip:Nat}
theorem nE(X:Eg qs es ck lm)(hq:∀x∈qs,BF x.2)(hl:qs.length<=500):BZ prog 102 #[I5 ip] [[(ip,.cells #[.map (some mp),.pointer none] 163 (0,0))],[(mp,.map es ck)]] (fun r H'=>∃lp ML sc jn,r=I5 lp/\Pt sc jn lp ML/\JV qs sc jn/\H'=[[(ip,.cells #[.map (some mp),I5 lp] 163 (0,0))],[(mp,.map es ck)],ML]):=by
 have hml:=mL;have hll:=X.len
 refine Se func102 ntmps102 [0] ?_;intro u R;refine A0<|A4 Y<|Zq<|A0<|Zm Y<|Zp Y V<|Zh 1 S0 V rfl cE Y<|Zl isAgg161 Y ?_;refine Zv (NW underlying161 Y Y)<|A5<|AU Y (fun hb=>by cases hb)<|fun hb=>AC<|Zx<|A0<|Ze (DX)<|AG fun ma=>A4 Y<|A0<|Ze (DX)<|AG fun mz=>Ze (DX)<|AG fun mj=>Zv (BL (vs:=[(0,_),(1,_)]) (cs:=#[_,_]) Y (AZ (pl:=#[(0,1),(1,1)]) zeroValue268 fy (fun _=>by kernel_rfl) V))<|Ze (Bx #[_,_])<|AG fun lp=>AN Y<|Zn [0,3,4] ?_;refine Zx<|Zq<|A0<|Zm Y<|Zp Y V<|Zh 0 S0 V rfl dq Y<|Zl dv Y ?_;refine Ze (Nj eN Y Wh)<|AG fun ib=>A5<|AQ<|BX<|BX<|BX<|Zb [0,3,4,32] ?_;refine BA (e0:=[]) (fun m e H=>∃(js:List Nat) (seen:Array Nat) (vs:List (Int×QM)) (af:Array MapEntry) (W:Nat) (lmA:List ((Int×Int)×A3)) (J:Array MapEntry) (G:Nat) (l5:List (Int×A3)) (Z MJ MK:List A9),m=lm.length -js.length/\(J2 es js seen/\dF lm js vs/\Cm K2 af W lmA/\(∀p∈lmA,KD p.1)/\wV vs lmA Z/\Cm (fun n:Int=>Value.int .i64 n) J G l5/\dI vs l5 (MJ++MK))/\e=[]/\H=[[(ib,.mapIter (some mp) ck seen ck)],[(ma,.map af W)],[(mj,.map J G)],Z,MJ,MK]) (by exact ⟨[],#[],[],#[],0,[],#[],0,[],[],[],[],V,⟨KV _,⟨V,fun x=>by simp⟩,EW _,fun p hp=>by simp at hp,bC _ _,EW _,bC _ _⟩,V,V⟩) Wp ?_;rintro _ _ _ ⟨js,seen,vs,af,W,lmA,J,G,l5,Z,MJ,MK,rfl,⟨gy,kv,B,ek,pq,gm,pz⟩,rfl,rfl⟩;have Gw:=F8 es.size js gy.nodup gy.lt
 rw [X.map.size]at Gw;refine A0<|Ze (Pz X.map gy Y Wo Wh) ?_;rintro _ _ qw;rcases qw with⟨ax,rfl,rfl⟩|⟨jn,pn,seen2,hpn,hjn,hi2,rfl,rfl⟩
 ·
  have zu:=ax;have o8:=gy
  refine Zd Y V<|A5<|Zq<|AU Y (fun hb=>by cases hb)<|fun hb=>Ay<|Zt<|Zt<|AR<|Zx<|Zq<|A0<|Zm Y<|Ze (Nj underlying264 Y Wh)<|AG fun ic=>A5<|AQ<|BX<|Zb [0,4,79] ?_;refine BA (e0:=[]) (fun m e H=>∃(ks:List Nat) (seen:Array Nat) (g:Int×Int->List IvM) (O:Array MapEntry) (I:Nat) (l8:List ((Int×Int)×A3)) (Z MB:List A9),m=lmA.length -ks.length/\(J2 af ks seen/\Cm K2 O I l8/\(∀p,p∈l8↔∃k∈ks,lmA[k]?=some p)/\Ud 4 273 lmA (fun k=>(g k).length) (fun k=>CO (g k)) (Z++MB)/\(∀j p,lmA[j]?=some p->if j∈ks then RO (Ed vs p.1) (g p.1)else g p.1=Ed vs p.1))/\e=[]/\H=[[(ic,.mapIter (some ma) W seen W)],[(mz,.map O I)],Z,MB]) (by exact ⟨[],#[],Ed vs,#[],0,[],Z,[],rfl,⟨KV _,EW _,fun p=>by simp,by rw [DG];exact pq,fun j p _=>by simp⟩,rfl,rfl⟩) Wp ?_;rintro _ _ _ ⟨ks,seen,g,O,I,l8,Z,MB,rfl,⟨d9,w9,pg,sO,q9⟩,rfl,rfl⟩;have LA:=F8 af.size ks d9.nodup d9.lt
  rw [B.size]at LA;refine A0<|Ze (Pz B d9 Y Wo Wh) ?_;rintro _ _ qw;rcases qw with⟨ax,rfl,rfl⟩|⟨jn,pn,seen2,hpn,hjn,hi2,rfl,rfl⟩
  ·
   refine Zd Y V<|A5<|Zq<|AU Y (fun hb=>by cases hb)<|fun hb=>Ay<|Zt<|Zt<|AR<|Zx<|Zq<|CP (s1:=[(lp,Obj.cells #[.map (some mz),.map (some mj)] 268 (0,0))]) (s2:=[(mz,Obj.map O I)]) Wo Wo ?_;refine CP (s1:=([(lp,Obj.cells #[.map (some mz),.map (some mj)] 268 (0,0))]++[(mz,Obj.map O I)])) (s2:=[(mj,Obj.map J G)]) Wo Wo ?_;refine CP (s1:=(([(lp,Obj.cells #[.map (some mz),.map (some mj)] 268 (0,0))]++[(mz,Obj.map O I)])++[(mj,Obj.map J G)])) (s2:=Z) Wo Wo ?_;refine CP (s1:=((([(lp,Obj.cells #[.map (some mz),.map (some mj)] 268 (0,0))]++[(mz,Obj.map O I)])++[(mj,Obj.map J G)])++Z)) (s2:=MB) Wo Wo ?_;refine CP (s1:=(((([(lp,Obj.cells #[.map (some mz),.map (some mj)] 268 (0,0))]++[(mz,Obj.map O I)])++[(mj,Obj.map J G)])++Z)++MB)) (s2:=MJ) Wo Wo ?_;refine CP (s1:=((((([(lp,Obj.cells #[.map (some mz),.map (some mj)] 268 (0,0))]++[(mz,Obj.map O I)])++[(mj,Obj.map J G)])++Z)++MB)++MJ)) (s2:=MK) Wo Wo ?_;refine Zg<|Zm Y<|Zm Y<|Zp Y V<|Zh 1 S0 V rfl cE Y<|Xe (Zs cE Y Y V) ?_;refine A5<|A0<|Zm Y<|A4 Y<|AJ<|AO V results102 Y (by
    have Hf:=F8 es.size js o8.nodup o8.lt;rw [X.map.size]at Hf;obtain ⟨zm,zq⟩:=gM X A1 kv zu B.keys pq gm pz w9 ek pg sO q9 ax (lp:=lp) (mz:=mz) (mj:=mj) (ML:=(((((([(lp,Obj.cells #[.map (some mz),.map (some mj)] 268 (0,0))]++[(mz,Obj.map O I)])++[(mj,Obj.map J G)])++Z)++MB)++MJ)++MK)) B4 B4 B4 (fun c hc=>by simp only [Bm]at hc⊢;rcases hc with hc|hc<;>simp [hc]) (fun c hc=>by simp only [Bm]at hc⊢;rcases hc with hc|hc<;>simp [hc]);exact ⟨lp,_,_,_,V,zm,zq,V⟩)
  refine Zd Y V<|A5<|Zq<|AU Y (fun hb=>?_) (fun hb=>?_);·
   have vw:=F8 af.size (ks++[jn]) hi2.nodup hi2.lt;rw [B.size,BW,Fl]at vw;have Mx:(ks++[jn]).length=ks.length+1:=by rw [BW];rfl
   refine AC<|Zx<|AQ<|A0<|CG (cs:=[(ic,.mapIter (some ma) W seen2 W),(ma,.map af W)]) B4 (JK B hi2 hpn Y) V rfl ?_;refine Zd Y V<|Zd Y V<|Ze (Al lR #[_,_])<|AG fun kb=>Xe (Xw sizeOf270 #[I4 pn.1.1,I4 pn.1.2]) ?_;refine AN Y<|Zx ?_;have zy:g pn.1=Ed vs pn.1:=by have h:=q9 jn pn hpn;rwa [An hjn]at h
   have FT:(g pn.1).length<=1000000:=by rw [zy];have:=Tv vs pn.1;have:=kv.1;omega
   have HZ:∀p∈l8,KD p.1:=fun p hp=>by
    obtain ⟨k,_,hk⟩:=(pg p).1 hp;exact ek p (Dg hk)
   have LB:KD pn.1:=ek pn (Dg hpn);obtain ⟨sA,cO,U,bn,gq⟩:=Qc B.keys sO pn.1;rw [Cy B.keys (Dg hpn)]at U;refine CP (s1:=Z) (s2:=MB) Wo Wo ?_;refine UQ (M:=Z++MB) Wo bn ?_;refine Az (n:=8) (0::1::3::7::0::0::32::127::[]) 192 AE AE V<|A2 0 V (AP Y)<|A2 1 V (Ap Y V)<|A2 2 V (AB (off:=0) fy V rfl sizeOf265 Y)<|B9 3 V isAgg265 Y ?_;refine Fk 4 V Wh (AA (cs:=#[_,_]) isAgg270 sizeOf270 Y Wn (BK V)) ?_;refine A2 5 V (AP Y)<|Zz (l:=[6])<|B5 [true,true] [(4,(_,_)),(3,(_,_))] V rfl (Zw [_] Y call157 Y V (gF _ (g pn.1) sA FT U)) ?_ Bw Ah;rintro _ _ ⟨_,⟨rfl,s2,l2,o2,P5,P7,LD,y9,P6,rfl⟩,rfl⟩;refine BT<|Yw 7 255 V (FH TG underlying265 w9 HZ (LB) Y Y Y Wo) ?_;rintro _ _ ⟨rfl,zk,zf,Pn,ME,MP,rfl⟩;refine Ag<|Zn [0,4,79] ?_;refine A8<|Zn [0,4,79] ?_;refine Ab (e':=[]) (by exact ⟨ks++[jn],seen2,fun k=>if k=pn.1 then l2 else g k,zk,zf,Pn,s2,cO,V,⟨hi2,ME,eB B.keys hpn hjn pg MP,yh (gq pn.2 s2 _ _ lmA B.keys (nC B.keys hpn) P6),iO B.keys hpn hjn q9 ⟨o2,P5,P7,LD,y9⟩⟩,V,V⟩)
  cases hb
 obtain ⟨x,hx,rfl⟩:=(X.mem pn).1 (Dg hpn);have qz:=hq x hx
 refine Zd Y V<|A5<|Zq<|AU Y (fun hb=>?_) (fun hb=>?_);·
  have ve:=F8 es.size (js++[jn]) hi2.nodup hi2.lt;rw [X.map.size,BW,Fl]at ve;have Mx:(js++[jn]).length=js.length+1:=by rw [BW];rfl
  have hvj:=kv.1;have hiv:=Tv vs (plQ x)
  have Y2:=aX vs x.2.ot;have p9:=eD kv hpn
  refine AC<|Zx<|AQ<|A0<|CG (cs:=[(ib,.mapIter (some mp) ck seen2 ck),(mp,.map es ck)]) B4 (JK X.map hi2 hpn Y) V rfl ?_;refine Zd Y V<|Zd Y V<|Ze (Al N2 #[_,_,_,_,_,_,_])<|AG fun xb=>Za Y<|Xe (Xw CN #[I4 x.2.kd,I4 x.2.tb,I4 x.2.cl,I4 x.2.lo,I4 x.2.hi,I4 x.2.bq,I4 x.2.ot]) ?_;refine A5<|A0<|Zo Wh (AA (cs:=#[_,_,_,_,_,_,_]) F2 CN Y Wn (BK V)) ?_;refine Zc [_] Y call147 Y V (lJ x.2 qz) ?_;rintro _ _ ⟨_,⟨rfl,rfl⟩,rfl⟩;refine Zm Y<|Zd Y V<|Zd Y V<|Zd Y V<|Zd Y V<|Za Y<|Za Y<|Za Y<|AN Y<|Zn [0,3,4,5,6,7,8,9,10,32] ?_;refine Zx<|A0<|Zm Y<|Zm Y<|Zv (BL (vs:=[(0,_),(1,_)]) (cs:=#[_,_]) Y (AZ (pl:=#[(0,1),(1,1)]) lR gx (fun _=>by kernel_rfl) V))<|Ze (Al lR #[_,_])<|AG fun pb=>Xe (BM sizeOf270 Y Y (by(simp [Value.oneCell',Value.cells];done)) Wu (by exact (rfl:_=(#[I4 x.2.tb,I4 x.2.cl]:AH))) Fc Wn (by exact BC _)) ?_;refine A5<|Zq ?_;obtain ⟨sA,cO,U,bn,gq⟩:=oJ B.keys pq x;obtain ⟨qo,Rl,y5⟩:=U.form;rw [y5]at U;have qa:KD (plQ x):=⟨VE (by have:=qz.1;simp [plQ];omega),VE (by have:=qz.2.1;simp [plQ];omega)⟩
  refine UQ (M:=Z) Wo bn ?_;refine Zg<|Zm Y<|Zo Wh (AA (cs:=#[_,_]) isAgg270 sizeOf270 Y Wn (BK V)) ?_;refine Zm Y<|Zm Y<|Zm Y<|Zv (BL (vs:=[(0,_),(1,_),(3,_)]) (cs:=#[_,_,_,_]) Y (AZ (pl:=#[(0,1),(1,1),(2,1),(3,1)]) zeroValue273 XS (fun _=>by kernel_rfl) V))<|Ze (Ai (vs:=[_]) (cs:=[_,_,_,_]) cA P0 zeroValue273 Y V rfl V rfl V)<|AG fun gb=>Ze (Kk TG underlying264 zeroValue271 B ek (qa) (y5) Y Y Wo) ?_;rintro _ _ ⟨Tm,Tg,lm3,j3,st3,rfl,MC,Gl,zt,wo,rfl⟩;refine Zd Y V<|Ze (BR (by_:=32) (sz:=4) cA (V:Tryz.prog.info? 273=some Tryz.t273) V rfl V rfl Y (U) Y (DN 4 gb 1 1 273 (0,0) [I4 (RX x).lo,I4 (RX x).hi,I4 (RX x).rc,I4 (RX x).id] V) Wo Wo GP A1 A1) ?_;rintro _ _ ⟨sj,p8,rfl⟩;have wh:=BS p8 (n':=(Ed vs (plQ x)++[RX x]).length) (xs':=CO (Ed vs (plQ x)++[RX x])) (by rw [BW];rfl) (by rw [aR];rfl)
  obtain ⟨Ty,Ta,rfl⟩:=p8.form;refine Zd Y V<|Ze (J4 MC Gl zt Y Y Y Wo) ?_;rintro _ _ ⟨rfl,sM,sw,r9,qb,wz,rfl⟩;refine Z0<|Zn [0,3,4,5,6,32] ?_;refine Zx<|Zq ?_;have vo:∀p∈r9,KD p.1:=fun p hp=>by
   rcases (wz p).1 hp with rfl|⟨h,_⟩
   · exact qa
   · rcases (wo p).1 h with rfl|⟨h,_⟩
     · exact qa
     · exact ek p h
  have l9:=gq _ _ _ qb.keys (fun p=>by rw [wz,wo];exact OY _ _ _ _) wh;refine CP (s1:=sj) (s2:=cO) Wo Wo ?_;refine Zg<|Zh 0 CT V rfl A6 Y<|Zl AF Y ?_;refine Zv (CK Y Y)<|A5<|Aq Y (fun h7=>?_) (fun h7=>?_);·
   obtain ⟨sJ,yt,cu,j5,qx⟩:=oH gm.keys pz x h7;obtain ⟨qj,Qe,x9⟩:=cu.form;rw [x9]at cu;refine CP (s1:=MJ) (s2:=MK) Wo Wo ?_;refine UQ (M:=MJ++MK) Wo j5 ?_;refine Az (n:=17) (0::1::3::7::0::16::0::64::192::448::0::1024::4032::0::8192::32704::65535::[]) 114688 AE AE V<|A2 0 V (AP Y)<|A2 1 V (Ap Y V)<|A2 2 V (AB (off:=1) fy V rfl sizeOf266 Y)<|B9 3 V isAgg266 Y ?_;refine A2 4 V (AB (off:=6) CT V rfl A6 Y)<|B9 5 V AF Y ?_;refine A2 6 V (AP Y)<|A2 7 V (Ap Y V)<|A2 8 V (AB (off:=1) fy V rfl sizeOf266 Y)<|B9 9 V isAgg266 Y ?_;refine A2 10 V (AB (off:=6) CT V rfl A6 Y)<|B9 11 V AF Y ?_;refine Fk 12 V Wh (Df (CY CM (D:=fun _=>True)) underlying266 zeroValue31 gm (fun _ _=>trivial) (trivial) (x9) Y Y) ?_;refine A2 13 V (AP Y)<|Zz (l:=[14])<|B5 [true,true,true,true,true] [(12,(_,_)),(11,(_,_)),(9,(_,_)),(5,(_,_)),(3,(_,_))] V rfl (Ai (vs:=[_]) (cs:=[_]) DH A6 HG Y V rfl V rfl V) ?_ (fun _ _ h=>h.elim) Ah;rintro _ _ ⟨gj,rfl,rfl⟩;refine BT<|Yz 15 32704 65535 [12,11,9,5,3] [false,false,false,true,true] [(5,(_,_)),(3,(_,_))] V Y V rfl V rfl (BR (by_:=8) (sz:=1) DH (V:Tryz.prog.info? 3=some Tryz.t3) V rfl V rfl Y (cu) Y (DN 1 gj 1 1 3 (0,0) [I4 x.1] V) Wo Wo GP A1 A1) ?_;rintro _ _ ⟨Qd,o9,rfl⟩;refine ⟨Zk (Zk (Aa)),?_⟩;have ql:=BS o9 (n':=(FU vs x.2.ot++[x.1]).length) (xs':=(FU vs x.2.ot++[x.1]).map fun i=>Value.int .i64 i) (by rw [BW];rfl) (by rw [C2];rfl)
   obtain ⟨Tp,T9,rfl⟩:=o9.form;refine Yw 16 131071 V (FH (CY CM (D:=fun _=>True)) underlying266 gm (fun _ _=>trivial) (trivial) Y Y Y Wo) ?_;rintro _ _ ⟨rfl,zl,zi,Ps,vz,MS,rfl⟩;refine Ag<|Zn [0,3,4,32] ?_;refine A8<|Zn [0,3,4,32] ?_;refine Ab (e':=[]) (by exact ⟨js++[jn],seen2,vs++[x],sM,sw,r9,zl,zi,Ps,sj++cO,Qd,yt,V,⟨hi2,p9,qb,vo,l9,vz,qx _ _ _ vz.keys MS ql⟩,V,V⟩)
  refine AC<|A8<|Zn [0,3,4,32] ?_;refine Ab (e':=[]) (by exact ⟨js++[jn],seen2,vs++[x],sM,sw,r9,J,G,l5,sj++cO,MJ,MK,V,⟨hi2,p9,qb,vo,l9,gm,oI pz x h7⟩,V,V⟩)
 cases hb
theorem nG:BZ prog 102 #[I5 ip] [[(ip,.cells #[.map (some mp),I5 lp] 163 (0,0))]] (fun r H'=>r=I5 lp/\H'=[[(ip,.cells #[.map (some mp),I5 lp] 163 (0,0))]]):=by
 refine Se func102 ntmps102 [0] ?_;intro u R;refine A0<|A4 Y<|Zq<|A0<|Zm Y<|Zp Y V<|Zh 1 S0 V rfl cE Y<|Zl isAgg161 Y<|Zv (IL underlying161 Y Y)<|A5<|AU Y (fun m=>?_) (fun m=>?_);·
  refine A0<|Zm Y<|Zp Y V<|Zh 1 S0 V rfl cE Y<|Zl isAgg161 Y<|A4 Y<|AJ<|Zt<|AO V results102 Y (by exact ⟨V,V⟩)
 cases m
theorem IA{r:AX}:r∈FM c↔(c.had=true/\r=⟨c.t,c.k,c.o⟩)\/(c.has=true/\r=⟨c.t,c.k,c.n⟩):=by
 unfold FM Il;rw [Bm];cases c.had<;>cases c.has<;>simp
theorem Nq(h:c.ok){r:AX}(G:r∈FM c):r.ok:=by
 obtain ⟨_,h2,_,_⟩:=h;rcases IA.1 G with⟨m,rfl⟩|⟨m,rfl⟩
 · have e:c.before=⟨c.t,c.k,c.o⟩:=by unfold Chg.before;rw [Ax m]
   rw [e]at h2;exact an fun B=>h2 (.inl ⟨m,B⟩)
 · have e:c.after=⟨c.t,c.k,c.n⟩:=by unfold Chg.after;rw [Ax m]
   rw [e]at h2;exact an fun B=>h2 (.inr ⟨m,B⟩)
theorem dV(h:c.ok):∀r∈FM c,∀n:Nat,n<4->-1000000000000<=Di r n/\Di r n<=1000000000000:=fun r G n _=>by
 obtain ⟨⟨m,h2,B⟩,I,J⟩:=Nq h G;simp only [inV]at m h2 B;unfold Di;split;· omega
 · split
   · omega
   · split<;>omega
theorem dX(h:c.ok):0<=c.t/\c.t<=3:=by
 have h0:c.had=true\/c.has=true:=by
  obtain ⟨m,_⟩:=h;cases e1:c.had<;>cases e2:c.has<;>simp_all
 rcases h0 with h0|h0
 · exact (Nq h (IA.2 (.inl ⟨h0,rfl⟩))).2.1
 · exact (Nq h (IA.2 (.inr ⟨h0,rfl⟩))).2.1
theorem A04{q:QM}(h:OJ q c=true):∃r∈FM c,inQ q r=true:=by
 unfold OJ bfQ afQ I7 at h;rw [SP]at h;rcases h with h|h
 · split at h
   · rename_i h1
     rw [Ft]at h1;exact ⟨_,IA.2 (.inl ⟨h1.1,V⟩),h1.2⟩
   · cases h
 · split at h
   · rename_i h1
     rw [Ft]at h1;exact ⟨_,IA.2 (.inr ⟨h1.1,V⟩),h1.2⟩
   · cases h
theorem kw{q:QM}(B:BF q)(h:Cq q c=true):OJ q c=true\/(q.kd=7/\c.t=q.ot):=by
 have hn:OJ q c=false->Ut q c=false/\mQ q (bfQ q c)=mQ q (afQ q c):=fun h=>by
  unfold OJ at h;unfold Ut;rw [jj]at h;obtain ⟨m,h2⟩:=h;rw [m,h2];rw [Option.isSome_eq_false_iff,Option.isNone_iff_eq_none]at m h2;rw [m,h2];exact ⟨rfl,rfl⟩
 cases ha:OJ q c with
 |true=>exact .inl rfl
 |false=>
  obtain ⟨m,h2⟩:=hn ha;unfold Cq at h;rw [ha,m,h2]at h;obtain ⟨_,_,_,G⟩:=B;right;simp at h;exact ⟨by omega,h.2.2.2.2⟩
theorem tO(B:JV qs sc jn){i:Int}(h:i∈NZ sc jn c):∃x∈qs,x.1=i:=by
 unfold NZ at h;rcases Bm.1 h with h|h
 · obtain ⟨r,_,h⟩:=SM.1 h
   obtain ⟨n,_,h⟩:=SM.1 h;obtain ⟨x,hx,m,_⟩:=(B.scan _ _ _ _).1 h;exact ⟨x,hx,m⟩
 · obtain ⟨x,hx,m,_⟩:=(B.join _ _).1 h
   exact ⟨x,hx,m⟩
theorem u2(m:Eg qs es ck lm){x y:Int×QM}(hx:x∈qs)(hy:y∈qs)(B:x.1=y.1):x=y:=by
 have G:∀{l:List (Int×QM)},(l.map (·.1)).Nodup->x∈l->y∈l->x=y:=fun{l}=>by
  induction l with
  |nil=>intro _ h;cases h
  |cons a l ih=>
   intro hn I h2;rw [Ek,Hc]at hn;rcases DB.1 I with h3|h3
   · rcases DB.1 h2 with h4|h4
     · rw [h3,h4]
     · exact absurd (by rw [<-h3,B];exact DS h4) hn.1
   · rcases DB.1 h2 with h4|h4
     · exact absurd (by rw [<-h4,<-B];exact DS h3) hn.1
     · exact ih hn.2 h3 h4
 exact G m.ids hx hy
theorem gG(B:JV qs sc jn){x:Int×QM}(hx:x∈qs)(G:BF x.2)(h:Cq x.2 c=true):x.1∈NZ sc jn c:=by
 unfold NZ;rcases kw G h with h|⟨h7,m⟩
 · obtain ⟨r,I,hi⟩:=A04 h
   unfold inQ at hi;rw [G3]at hi;have hc:=G.2.1
   have hv:=Li r x.2.cl.toNat A1;rw [show((x.2.cl.toNat:Nat):Int)=x.2.cl by omega]at hv;have m:r.t=c.t:=by rcases IA.1 I with⟨_,rfl⟩|⟨_,rfl⟩<;>rfl
   refine E7 _ (SM.2 ⟨r,I,SM.2 ⟨x.2.cl.toNat,LL.2 A1,?_⟩⟩);refine (B.scan _ _ _ _).2 ⟨x,hx,V,?_,by omega,by omega⟩;unfold plQ;rw [show((x.2.cl.toNat:Nat):Int)=x.2.cl by omega,<-m,hi.1]
 · exact GB _ ((B.join _ _).2 ⟨x,hx,rfl,h7,m.symm⟩)
def Wt(qs:List (Int×QM))(lv:A3)(ML:List A9):Prop:=(lv= .pointer none/\ML=[])\/∃lp sc jn,lv=I5 lp/\Pt sc jn lp ML/\JV qs sc jn
theorem iQ{P:Program}{f:FuncId}{args:AH}{H1 m:Hp}{Q:A3->Hp->Prop}(h:BZ P f args H1 Q)(e:m.flatten=H1.flatten):BZ P f args m Q:=fun u R w B=>h u R w (B.perm (by rw [HC,HC,e]))
theorem tu(B:Eg qs es ck lm)(J:∀x∈qs,BF x.2)(I:qs.length<=500){lv:A3}(G:Wt qs lv ML):
 BZ prog 102 #[I5 ip] [[(ip,.cells #[.map (some mp),lv] 163 (0,0))],[(mp,.map es ck)],ML] (fun r H'=>∃lp m sc jn,r=I5 lp/\Pt sc jn lp m/\JV qs sc jn/\H'=[[(ip,.cells #[.map (some mp),I5 lp] 163 (0,0))],[(mp,.map es ck)],m]):=by
 rcases G with⟨rfl,rfl⟩|⟨lp,sc,jn,rfl,h1,h2⟩
 · refine (iQ (H1:=[[(ip,.cells #[.map (some mp),.pointer none] 163 (0,0))],[(mp,.map es ck)]]) (nE B J I) B4).mono ?_
   exact fun v H' h=>h
 · refine (iP nG [[(mp,.map es ck)],ML]).mono ?_
   rintro v H' ⟨H1,⟨rfl,rfl⟩,rfl⟩;exact ⟨lp,ML,sc,jn,V,h1,h2,V⟩
structure IG(S:Int->Prop)(es:Array MapEntry)(ck:Nat)(lm:List (Int×A3)):Prop where
 map:Cm (fun n:Int=>Value.int .i64 n) es ck lm
 val:∀p∈lm,p.2= .bool true
 mem:∀i,i∈lm.map (·.1)↔S i
theorem iH:IG (fun _=>False) #[] 0 []:=⟨EW _,fun p h=>by simp at h,fun i=>by simp⟩
variable{S:Int->Prop}
theorem IG.get(h:IG S es ck lm)(i:Int) [Decidable (S i)]:(EK i lm).getD (.bool false)= .bool (decide (S i)):=by
 by_cases hi:S i
 · obtain ⟨p,m,rfl⟩:=C3.1 ((h.mem i).2 hi)
   rw [Cy h.map.keys m,h.val p m,DE hi];rfl
 · rw [Da fun p m B=>hi ((h.mem i).1 (C3.2 ⟨p,m,B⟩)),Cd hi];rfl
theorem IG.cong{T:Int->Prop}(h:IG S es ck lm)(e:∀i,S i↔T i):IG T es ck lm:=⟨h.map,h.val,fun i=>(h.mem i).trans (e i)⟩
theorem IG.put{J:Array MapEntry}{I:Nat}{G:List (Int×A3)}(h:IG S es ck lm){i:Int}(W:Cm (fun n:Int=>Value.int .i64 n) J I G)(O:∀p,p∈G↔p=(i,.bool true)\/(p∈lm/\p.1≠i)):IG (fun j=>S j\/j=i) J I G:=by
 refine ⟨W,fun p m=>?_,fun j=>?_⟩
 · rcases (O p).1 m with rfl|⟨h1,_⟩
   · rfl
   · exact h.val p h1
 · rw [<-h.mem]
   constructor
   · intro U
     obtain ⟨p,m,rfl⟩:=C3.1 U;rcases (O p).1 m with rfl|⟨h1,_⟩
     · exact .inr rfl
     · exact .inl (DS h1)
   · intro U
     by_cases B:j=i
     · subst B;exact C3.2 ⟨_,(O _).2 (.inl rfl),rfl⟩
     · obtain ⟨p,m,rfl⟩:=C3.1 (U.resolve_right B)
       exact C3.2 ⟨p,(O p).2 (.inr ⟨m,B⟩),V⟩
theorem IG.len(h:IG S es ck lm)(I:∀i,S i->∃x∈qs,x.1=i):lm.length<=qs.length:=by
 have G:∀{a b:List Int},a.Nodup->(∀x∈a,x∈b)->a.length<=b.length:=fun{a b}=>by
  induction a generalizing b with
  |nil=>intro _ _;exact C5 _
  |cons x a ih=>
   intro hn B;obtain ⟨hx,hn⟩:=Hc.1 hn;have h2:=ih (b:=b.erase x) hn fun y hy=>by
    have m:y≠x:=fun e=>hx (e▸hy);exact (List.mem_erase_of_ne m).2 (B y (FA _ hy))
   have O:=oT (B x (EV ..));have U:=List.length_pos_of_mem (B x (EV ..))
   rw [Dd];omega
 have h2:=G (a:=lm.map (·.1)) (b:=qs.map (·.1)) h.map.keys fun i hi=>by
  obtain ⟨x,hx,J⟩:=I i ((h.mem i).1 hi);exact C3.2 ⟨x,hx,J⟩
 simpa using h2
def JW(qs:List (Int×QM))(cs:List Chg)(i:Int):Prop:=∃x∈qs,x.1=i/\∃c∈cs,Cq x.2 c=true
end Go.Proofs.YtfhjaegddfehhabGreatDoor
namespace Go.Proofs.YtfhjaegddfehhabGreatDoor
open Go.Proofs.Tryz
open Go Go.RowKit Gw
set_option maxRecDepth 100000
attribute [local irreducible] Gw.At Gw.Nx Gw.Ops
open Go.Sort
theorem TN{κ:Type}{l:List (κ×A3)}{js:List Nat}(hn:js.Nodup)(G:∀j∈js,j<l.length):∃m,((DV l js).map (·.1)++m).Perm (l.map (·.1)):=by
 have J:(js++(List.range l.length).filter fun j=>decide (j∉js)).Perm (List.range l.length):=(S7 (HA.2 ⟨hn,(jz).sublist Up,fun a B b I=>by
  have:=(FF.1 I).2;simp only [G3]at this;intro h;subst h;exact this B⟩) jz).2 fun a=>by
  simp only [Bm,FF,LL,G3];constructor
  · rintro (h|h)
    · exact G a h
    · exact h.1
  · intro h
    by_cases B:a∈js
    · exact .inl B
    · exact .inr ⟨h,B⟩
 have h:=(J.filterMap (fun j=>l[j]?)).map (·.1);rw [fW,C2,show(List.range l.length).filterMap (fun j=>l[j]?)=DV l (List.range l.length) from rfl,NV]at h;exact ⟨_,h⟩
def NH{κ:Type}(l:List (κ×A3))(p:List κ):Prop:=∃rest,(p++rest).Perm (l.map (·.1))
theorem NH.len{κ:Type}{l:List (κ×A3)}{p:List κ}{x:κ}(h:NH l (p++[x])):p.length<l.length:=by
 obtain ⟨r,h⟩:=h;have:=h.length_eq
 simp at this;omega
theorem dx{v:A3}{zs:List Int}{s:List A9}(U:Row 3 v (zs.map (Value.int .i64)) s)(Z:zs.length<=1000000):BZ prog 162 #[v] [s] (fun r H'=>∃(zs':List Int) (s':List A9),r= .tuple #[]/\zs'.Perm zs/\(zs'.Pairwise fun x y=>x<=y)/\Row 3 v (zs'.map (Value.int .i64)) s'/\H'=[s']):=fun u R w J=>by
 have m:=(pD zs fun x y=>decide (x<=y)).length_eq;have G:(zs.mergeSort fun x y=>decide (x<=y)).Pairwise fun x y=>x<=y:=by
  have h:=List.pairwise_mergeSort (le:=fun x y:Int=>decide (x<=y)) (fun a b c X h2=>by simp only [G3]at*;omega) (fun a b=>by simp only [SP,G3];omega) zs;simpa only [G3]using h
 rcases U with⟨rfl,h0,rfl⟩|⟨g,cap,cur,z,rfl,rfl,hle,hcm,hcs,htk,hfr⟩
 · have hx:zs=[]:=by simpa using h0
   subst hx;refine (Tryz.slices_Sort_int_none none 0 w).mono ?_;rintro e W ⟨rfl,rfl⟩;exact .inl ⟨_,[[]],V,⟨[],[],V,.refl _,.nil,by simp [Gb],V⟩,J⟩
 · rw [B8]at hle htk⊢
   have B:Sat u ([(g,.cells cur 3 z)]::R) w:=by simpa using J
   have I:=B.get (g,.cells cur 3 z) B4;have O:=U4 I A1 hfr htk
   refine (Tryz.slices_Sort_int g 0 cap zs w O (HU.1 I).1 A1).mono ?_;rintro e W ⟨rfl,n,os,rfl⟩;refine .inl ⟨_,[[(g,.cells (putCells (Value.int .i64) 0 (zs.mergeSort fun x y=>decide (x<=y)).toArray cur) 3 z)]],V,⟨_,_,V,pD _ _,G,?_,V⟩,by simpa using B.sorted (n:=n) _ os⟩;refine .inr ⟨g,cap,_,z,by rw [B8,m],rfl,by rw [B8,m];exact hle,hcm,by rw [Mo];exact hcs,?_,by rw [Mo];exact hfr⟩;rw [B8];exact Z8 _ _ A1
theorem gX(mi:Nat):BZ prog 105 #[.map (some mi)] [] (fun r H'=>∃b,r= .func (.func 163) #[] #[I5 b]/\H'=[[(b,.cells #[.map (some mi)] 196 (0,0))]]):=by
 refine Se func105 ntmps105 [0] ?_;intro u R;refine A0<|Ze (Bx #[_])<|AG fun b=>A4 Y<|A0<|Zv (Bh (vs:=[]) (us:=[_]) Y Y)<|A4 Y<|AJ<|AO V results105 Y (by exact ⟨b,V,V⟩)
variable{es:Array MapEntry}{ck:Nat}{lm:List (Int×A3)}
theorem gY(X:Cm (fun n:Int=>(Value.int .i64) n) es ck lm)(b mi:Nat):Kg prog 163 #[I5 b] [[(b,.cells #[.map (some mi)] 196 (0,0))]] (fun _ s=>(mi,Obj.map es ck)∈s) (fun x:Int=>#[I4 x]) (NH lm) (fun ys=>ys.Perm (lm.map (·.1))):=by
 intro l J Z hy s G;refine Se func163 ntmps163 [0,1] ?_;intro u R;refine A0<|Zl isAgg196 Y<|Ze (Lg underlying196 Y (FR Wo (Z _ s G)))<|AG fun ib=>A5<|AQ<|Zb [0,5] ?_;refine BA (e0:=[]) (fun m e H=>∃(js:List Nat) (seen:Array Nat) (s:List A9),m=lm.length -js.length/\(J2 es js seen/\J ((DV lm js).map (·.1)) s)/\e=[]/\H=[[(ib,.mapIter (some mi) ck seen ck)],s]) (by exact ⟨[],#[],s,V,⟨KV _,G⟩,V,V⟩) Wp ?_;rintro _ _ _ ⟨js,seen,s,rfl,⟨O,G⟩,rfl,rfl⟩;have af:=F8 es.size js O.nodup O.lt
 rw [X.size]at af;refine A0<|Ze (Nk X O Y Wo (FR Wo (Z _ s G))) ?_;rintro _ _ bn;rcases bn with⟨I,rfl,rfl⟩|⟨jn,pn,seen2,hpn,hjn,hi2,rfl,rfl⟩
 ·
  refine Zd Y V<|A5<|Zq<|AU Y (fun B=>by cases B)<|fun B=>Ay<|Zt<|Zt<|AR<|Cw V results163 (by exact ⟨_,s,I.map _,V,G⟩)
 refine Zd Y V<|A5<|Zq<|AU Y (fun B=>?_) (fun B=>?_);·
  have W:=F8 es.size (js++[jn]) hi2.nodup hi2.lt;rw [X.size,BW,Fl]at W;have d9:(js++[jn]).length=js.length+1:=by rw [BW];rfl
  have cu:NH lm ((DV lm js).map (·.1)++[pn.1]):=by
   have h:=TN (l:=lm) hi2.nodup (fun j hj=>by rw [<-X.size];exact hi2.lt j hj);rw [G5 lm js hpn,C2]at h;exact h
  have cO:=hy ((DV lm js).map (·.1)) pn.1 s cu G;refine AC<|Zx<|AQ<|Zq<|Zg ?_;have ax:=Z _ s G
  refine CG (cs:=[(ib,.mapIter (some mi) ck seen2 ck),(mi,.map es ck)]) (by simp [ax]) (JK X hi2 hpn Y) V rfl<|Zd Y V<|A4 Y<|A0<|Zm Y<|Zm Y<|Ze (Ga (vs:=[_]) Y Y (cO) Wp) ?_;rintro _ _ ⟨_,⟨s',rfl,rfl,U⟩,rfl⟩;rw [show(DV lm js).map (·.1)++[pn.1]=(DV lm (js++[jn])).map (·.1) by rw [G5 lm js hpn,C2];rfl]at U;refine Zv (Br Y)<|A5<|AU Y (fun B=>by cases B)<|fun B=>AC<|A8<|Zn [0,5] ?_;refine Ab (e':=[]) (by exact ⟨js++[jn],seen2,s',V,⟨hi2,U⟩,V,V⟩)
 cases B
variable{M:List A9}
theorem Rf(hm:Cm (fun n:Int=>(Value.int .i64) n) es ck lm)(hn:lm.length<=1000000)(b mi:Nat)(W:(mi,Obj.map es ck)∈M):BZ prog 230 #[.slice none 0 0,.func (.func 163) #[] #[I5 b]] [[(b,.cells #[.map (some mi)] 196 (0,0))],M] (fun r H'=>∃(zs:List Int) (s':List A9),zs.Perm (lm.map (·.1))/\Row 3 r (zs.map (Value.int .i64)) s'/\H'=[M,s']):=by
 have af:=mL;refine DT func230 V ntmps230 V ?_;intro u R;refine Zb [0,1] ?_;refine A0<|Ze (Bx #[_])<|AG fun bs=>A4 Y<|Zq<|A0<|Zm Y<|A5<|AQ<|Zb [2,6] ?_;refine BX<|JB (H0:=_) (R:=_) (I:=(fun(pre:List Int) H=>∃B s2,H=[[(bs,.cells #[B] 31 (0,0))],s2,M]/\Row 3 B (pre.map (Value.int .i64)) s2)) (E:=fun x e Hn=>e=[(5,I4 x),(7,I4 x)]/\Hn=[]) rfl Y call163 (gY hm b mi) (fun pre H1 c d h=>by obtain ⟨B,s2,rfl,_⟩:=h;simp [W]) Y rfl Wp (⟨_,[],rfl,Gb _⟩) ?ha_2 ?hbd_2 ?hk_2
 case ha_2=>
  intro _ x _ _;refine Zg<|AN Y<|MG (e:=[(5,_),(7,_)]) (Hn:=[]) ?_;exact ⟨V,V⟩
 case hbd_2=>
  intro l pre x u e9 Z H1 R1 r9 X hI J;obtain ⟨rfl,rfl⟩:=J;obtain ⟨B,s2,rfl,G⟩:=hI;have ax:=X.len
  obtain ⟨gv,cv,rfl⟩:=G.form;refine AQ<|Zg<|Zl cJ Y<|Zm Y<|Ze (Ai (vs:=[_]) (cs:=[_]) DH A6 HG Y V rfl V rfl V)<|AG fun b2=>Ze (Eb (by_:=8) (news:=[_]) DH (V:Tryz.prog.info? 3=some Tryz.t3) V rfl V rfl Y G Y Wo Wh As V GP AW (by(simp only [B8];omega)) (by(simp only [B8];omega))) ?_;rintro _ _ ⟨sq,m,rfl⟩;obtain ⟨gq,cq,rfl⟩:=m.form;refine Xe (Zs du Y Y rfl)<|Z0<|A8<|F7 rfl (by exact ⟨_,_,rfl,by rw [C2];exact m⟩)
 intro D1 ys H2 U O;obtain ⟨B,s2,rfl,G⟩:=O;refine Zn [2] ?_;refine A8<|Zx<|A0<|Zl cJ Y<|A4 Y<|AJ<|GR V (eZ results230 Y) Wo (by exact ⟨ys,s2,U,G,V⟩)
theorem Uy(B:Cm (fun n:Int=>(Value.int .i64) n) es ck lm)(hn:lm.length<=1000000)(b mi:Nat)(m:(mi,Obj.map es ck)∈M):BZ prog 161 #[.func (.func 163) #[] #[I5 b]] [[(b,.cells #[.map (some mi)] 196 (0,0))],M] (fun r H'=>∃(zs:List Int) (s':List A9),zs.Perm (lm.map (·.1))/\Row 3 r (zs.map (Value.int .i64)) s'/\H'=[M,s']):=by
 refine Se func161 ntmps161 [0] ?_;intro u R;refine A0<|A4 Y<|A0<|Zm Y<|Zc [_,_] Y call230 Y V (Rf B hn b mi m) ?_;rintro _ _ ⟨_,⟨zs,s2,G,I,rfl⟩,rfl⟩;refine A4 Y<|AJ<|AO V results161 Y (by exact ⟨zs,s2,G,I,V⟩)
theorem XC(W:Cm (fun n:Int=>(Value.int .i64) n) es ck lm)(hn:lm.length<=1000000)(b mi:Nat)(m:(mi,Obj.map es ck)∈M):BZ prog 104 #[.func (.func 163) #[] #[I5 b]] [[(b,.cells #[.map (some mi)] 196 (0,0))],M] (fun r H'=>∃(zs:List Int) (s':List A9),zs.Perm (lm.map (·.1))/\(zs.Pairwise fun x y=>x<=y)/\Row 3 r (zs.map (Value.int .i64)) s'/\H'=[M,s']):=by
 refine Se func104 ntmps104 [0] ?_;intro u R;refine A0<|A4 Y<|A0<|Zm Y<|Zc [_] Y call161 Y V (Uy W hn b mi m) ?_;rintro _ _ ⟨_,⟨zs,s2,U,X,rfl⟩,rfl⟩;have J:=U.length_eq
 rw [B8]at J;refine A4 Y<|A0<|Zm Y<|Zc [_] Y call162 Y V (dx X A1) ?_;rintro _ _ ⟨_,⟨O,Z,rfl,B,I,G,rfl⟩,rfl⟩;refine A5<|A0<|Zm Y<|A4 Y<|AJ<|AO V results104 Y (by exact ⟨O,Z,B.trans U,I,G,V⟩)
end Go.Proofs.YtfhjaegddfehhabGreatDoor
namespace Go.Proofs.YtfhjaegddfehhabGreatDoor
open Go.Proofs.Tryz
open Go Go.RowKit Gw
set_option maxRecDepth 100000
attribute [local irreducible] Gw.At Gw.Nx Gw.Ops
variable{qs:List (Int×QM)}{c:Chg}
theorem uZ{sc:Int->Int->List IvM}{jn:Int->List Int}(I:JV qs sc jn)(J:∀x∈qs,BF x.2){cs:List Chg}{k:Nat}(hc:cs[k]?=some c)(i:Int):(JW qs (cs.take k) i\/(i∈NZ sc jn c/\JW qs [c] i))↔JW qs (cs.take (k+1)) i:=by
 rw [Bn hc];unfold JW;constructor
 · rintro (⟨x,hx,G,d,m,B⟩|⟨_,x,hx,G,d,m,B⟩)
   · exact ⟨x,hx,G,d,E7 _ m,B⟩
   · exact ⟨x,hx,G,d,GB _ m,B⟩
 · rintro ⟨x,hx,G,d,m,B⟩
   rcases Bm.1 m with m|m
   · exact .inl ⟨x,hx,G,d,m,B⟩
   · refine .inr ⟨?_,x,hx,G,d,m,B⟩
     rw [C1.1 m]at B;rw [<-G];exact gG I hx (J x hx) B
variable{es:Array MapEntry}{ck:Nat}{lm:List (Int×A3)}{y:Int×QM}
theorem kG(m:Eg qs es ck lm)(hy:y∈qs):JW qs [c] y.1↔Cq y.2 c=true:=by
 constructor
 · rintro ⟨x,hx,I,d,G,B⟩
   rw [C1.1 G]at B;rwa [u2 m hx hy I]at B
 · intro h;exact ⟨y,hy,rfl,c,by simp,h⟩
theorem oF(m:Eg qs es ck lm)(hy:y∈qs)(h:Cq y.2 c=true){S:Int->Prop}{pre:List Int}(i:Int):((S i\/(i∈pre/\JW qs [c] i))\/i=y.1)↔(S i\/(i∈pre++[y.1]/\JW qs [c] i)):=by
 rw [Bm,C1];constructor
 · rintro ((h1|⟨h1,h2⟩)|rfl)
   · exact .inl h1
   · exact .inr ⟨.inl h1,h2⟩
   · exact .inr ⟨.inr rfl,(kG m hy).2 h⟩
 · rintro (h1|⟨h1|rfl,h2⟩)
   · exact .inl (.inl h1)
   · exact .inl (.inr ⟨h1,h2⟩)
   · exact .inr rfl
theorem aj(m:Eg qs es ck lm)(hy:y∈qs){S:Int->Prop}{pre:List Int}(h:Cq y.2 c=true->S y.1\/(y.1∈pre/\JW qs [c] y.1))(i:Int):(S i\/(i∈pre/\JW qs [c] i))↔(S i\/(i∈pre++[y.1]/\JW qs [c] i)):=by
 rw [Bm,C1];constructor
 · rintro (h1|⟨h1,h2⟩)
   · exact .inl h1
   · exact .inr ⟨.inl h1,h2⟩
 · rintro (h1|⟨h1|rfl,h2⟩)
   · exact .inl h1
   · exact .inr ⟨h1,h2⟩
   · exact h ((kG m hy).1 h2)
theorem gJ{ip mp:Nat}(J:Eg qs es ck lm)(hq:∀x∈qs,BF x.2)(hl:qs.length<=500){lv:A3}{ML:List A9}(Z:Wt qs lv ML)(p:Int){MC:List A9}{qa:B6}{cap:Nat}{cs:List Chg}(hC:Cf MC (.slice qa cs.length cap) cs)(sw:cs.length<=1000)(ek:∀c∈cs,c.ok):BZ prog 49 #[I5 ip,.agg #[I4 p,.slice qa cs.length cap]] [[(ip,.cells #[.map (some mp),lv] 163 (0,0))],[(mp,.map es ck)],ML,MC] (fun r H'=>∃(zs:List Int) (s':List A9) (lv':A3) (ML':List A9),(∀i,i∈zs↔JW qs cs i)/\zs.Nodup/\(zs.Pairwise fun x y=>x<=y)/\Row 3 r (zs.map (Value.int .i64)) s'/\Wt qs lv' ML'/\H'=[[(ip,.cells #[.map (some mp),lv'] 163 (0,0))],[(mp,.map es ck)],ML',MC,s']):=by
 have ve:=mL;obtain ⟨pc,qj,pz,sJ,l5⟩:=id hC;injection pz with hv1 hv2 hv3
 subst hv1 hv3;have sO:=J.len
 refine DT func49 V ntmps49 V ?_;intro u R;refine Zb [0,1] ?_;refine A0<|Ze (Bx #[_])<|AG fun bx=>Ze (Bx #[I4 p,.slice qa cs.length cap])<|AG fun br=>A4 Y<|Zq<|A0<|Zl isAgg82 Y<|Zv (Be underlying82 Y Y)<|A5<|AU Y (fun d9=>by cases d9)<|fun d9=>AC<|Zx<|A0<|Ze (DX)<|AG fun mf=>Ze (Al zeroValue196 #[_])<|AG fun bf=>Xe (Zs sizeOf196 Y Y V)<|A5<|Zq<|A0<|Zh 1 Ge V rfl Lq Y<|Zl N4 Y<|Zv (AY GF Y)<|Zm Y<|A5<|AQ<|Zb [15,2,5,13,14] ?_;refine wG (e0:=[(15,_)]) (H0:=_) (n:=_) (fun m e H=>∃(k:Nat) (lv:A3) (ML:List A9) (W:Array MapEntry) (U:Nat) (cu:List (Int×A3)),m=cs.length -k/\(k<=cs.length/\Wt qs lv ML/\IG (JW qs (cs.take k)) W U cu)/\e=[(15,I4 (k:Int))]/\H=[[(ip,.cells #[.map (some mp),lv] 163 (0,0))],ML,[(mf,.map W U)]]) (by exact ⟨0,lv,ML,#[],0,[],V,⟨C5 _,Z,iH.cong fun i=>by unfold JW;simp⟩,V,V⟩) Wp ?_;rintro Ds _ _ _ ⟨k,lv,ML,W,U,cu,rfl,⟨hk,Z,hF⟩,rfl,rfl⟩;refine A0<|Zv (Au Y Y)<|A5<|Zq<|Aq Y (fun o8=>?_) (fun o8=>?_);·
  obtain ⟨c,hc⟩:∃c,cs[k]?=some c:=⟨_,B7 A1⟩;have ax:=ek c (Dg hc)
  have vo:=dX ax;obtain ⟨g,off,cur,T,zz,rfl,p8,qo,gm⟩:=l5 k c hc;refine AC<|Zx<|Zq<|AQ<|A0<|BV (Ad GF C7 Y Y A1)<|CG (Gd Wo (p8)) (AA (cs:=c.A96) G2 C7 Y A1 gm) V rfl<|Ze (Al MA #[_,_,_,_,_,_,_,_,_,_])<|AG fun bc=>Xe (Xw C7 c.A96)<|A5<|Zq<|Az (n:=4) (0::1::0::7::[]) 10 AE AE V<|B9 0 V isAgg82 Y<|Fk 2 V Wh (AA (cs:=#[_,_,_,_,_,_,_,_,_,_]) G2 C7 Y Wn (BK V))<|Zz (l:=[1])<|B5 [true,false] [(2,(_,_))] V rfl (Zw [_] Y call102 Y V (tu J hq hl Z)) ?_ Bw Ah;rintro _ _ ⟨_,⟨lp,cO,sc,jn,rfl,hL,hW,rfl⟩,rfl⟩;refine BT<|Zz (l:=[3])<|B5 [false] [] V rfl (Zw [_,_] Y call103 Y V (mZ lp c)) ?_ Bw Ah;rintro _ _ ⟨_,⟨bl,bn,rfl,rfl⟩,rfl⟩;refine BT<|Ag<|Zx<|AQ<|Zb [2,5,7,13,14,15,22] ?_;refine Pp (H0:=_) (R:=_) (I:=(fun(pre:List Int) H=>∃G B O,IG (fun i=>JW qs (cs.take k) i\/(i∈pre/\JW qs [c] i)) G B O/\H=[[(ip,.cells #[.map (some mp),I5 lp] 163 (0,0))],[(mp,.map es ck)],cO,[(mf,.map G B)],[(bf,.cells #[.map (some mf)] 196 (0,0))],[(bx,.cells #[I5 ip] 82 (0,0))],[(bc,.cells c.A96 64 (0,0))]])) (E:=fun x e Hn=>e=[(8,I4 x),(23,I4 x)]/\Hn=[]) rfl Y call158 (mg hL c (dV ax) A1 (hW.small c.t) bn bl) (by rintro pre _ c1 c2 ⟨sj,qz,vw,h9,rfl⟩;intro q pg;simp [pg]) Y rfl Wp (⟨W,U,cu,hF.cong fun i=>by simp,rfl⟩) ?ha_5 ?hbd_5 ?hk_5
  case ha_5=>
   intro _ x _ _;refine Zg<|AN Y<|MG (e:=[(8,_),(23,_)]) (Hn:=[]) ?_;exact ⟨V,V⟩
  case hbd_5=>
   intro l pre x qw u e9 qx H1 R1 r9 q9 hI j5;obtain ⟨rfl,rfl⟩:=j5;obtain ⟨G,B,O,hG,rfl⟩:=hI;obtain ⟨y,hy,rfl⟩:=tO hW (c:=c) (i:=x) (by rw [q9];simp);have l9:=J.get hy
   have ql:Decidable (JW qs (cs.take k) y.1\/(y.1∈pre/\JW qs [c] y.1)):=Classical.propDecidable _;have l8:=hG.get y.1
   refine AQ<|Zq<|Az (n:=14) (0::0::3::7::15::31::63::127::255::31::1023::31::4095::8191::[]) 4096 AE AE V<|B9 0 V isAgg196 Y<|A2 1 V (AP Y)<|Fk 2 V Wh (Df (CY CM (D:=fun _=>True)) underlying196 W5 hG.map (fun _ _=>trivial) (trivial) (l8) Y Y)<|A2 3 V (Cn Y)<|A2 4 V (AP Y)<|D8 (t:=28) Y (fun X=>?_) (fun X=>?_);·
    rw [DE X];refine DQ 5 rfl Wh (BO isAgg82 Y As)<|B3 6 rfl (Ap Y rfl)<|B3 7 rfl (AB (off:=0) S0 rfl rfl dq Y)<|DQ 8 rfl Wh (BO dv Y As)<|B3 9 rfl (AP Y)<|DQ 10 rfl Wh (Df (CY CM (D:=fun _=>True)) eN N2 J.map (fun _ _=>trivial) (trivial) (by rw [l9];first|done|rfl) Y Y)<|DQ 11 rfl Wh (AA (cs:=c.A96) G2 C7 Y Wn (BK rfl))<|Yw 12 8191 rfl (Zu [_,_] Y call100 Y rfl (Km y.2 c)) ?_;rintro _ _ ⟨rfl,rfl⟩;rw [DE (hq y hy),DE ax,Vc,Vc];refine A2 13 V (AV Y Y)<|Ag<|Zn [5,8,37] ?_;refine Zx<|AU Y (fun af=>?_) (fun af=>?_);·
     have h9:=af;refine Zg<|Zl isAgg196 Y<|Zm Y<|Ze (FH (CY CM (D:=fun _=>True)) underlying196 hG.map (fun _ _=>trivial) (trivial) Y Y Y Wo) ?_;rintro _ _ ⟨rfl,j3,ic,qb,o9,p9,rfl⟩;refine Z0<|A8<|F7 V (by exact ⟨j3,ic,qb,(hG.put o9 p9).cong (oF J hy h9),V⟩)
    have h9:Cq y.2 c=true->JW qs (cs.take k) y.1\/(y.1∈pre/\JW qs [c] y.1):=fun h=>by rw [af]at h;cases h
    refine AC<|A8<|F7 V (by exact ⟨G,B,O,hG.cong (aj J hy h9),V⟩)
   rw [Cd X];have h9:Cq y.2 c=true->JW qs (cs.take k) y.1\/(y.1∈pre/\JW qs [c] y.1):=fun _=>HL.1 X
   refine AM 5 V<|AM 6 V<|AM 7 V<|AM 8 V<|AM 9 V<|AM 10 V<|AM 11 V<|AM 12 V<|A2 13 V (AL Y Y)<|Ag<|Zn [5,8,37] ?_;refine Zx<|D9 Y<|AC<|A8<|F7 V (by exact ⟨G,B,O,hG.cong (aj J hy h9),V⟩)
  intro D1 H2 kv;obtain ⟨G,B,O,hG,rfl⟩:=kv;refine Zn [2,5,13,14,15] ?_;refine A8<|A8<|Zx<|Zg<|Ya (n:=1) Y Y<|Zm Y<|Z0<|Zn [15,2,5,13,14] ?_;refine gD (Ds:=Ds) (e':=[(15,_)]) (by exact ⟨k+1,_,cO,G,B,O,V,⟨by omega,.inr ⟨lp,sc,jn,V,hL,hW⟩,hG.cong (uZ hW hq hc)⟩,V,V⟩) Wo Wo
 obtain rfl:k=cs.length:=by omega
 rw [GS]at hF;refine Ay<|Zt<|Zt<|AR<|Zx<|Zq ?_;have sM:=hF.len (qs:=qs) fun i h=>by
  obtain ⟨x,hx,he,_⟩:=h;exact ⟨x,hx,he⟩
 refine Zg<|Zl isAgg196 Y<|Zc [_] Y call105 Y V (gX mf) ?_;rintro _ _ ⟨_,⟨bk,rfl,rfl⟩,rfl⟩;refine Zc [_] Y call104 Y V (XC hF.map A1 bk mf (M:=[(mf,.map W U)]) B4) ?_;rintro _ _ ⟨_,⟨zs,s4,gq,gy,pq,rfl⟩,rfl⟩;refine A4 Y<|AJ<|tK (Ds:=Ds) rfl (eZ results49 Y) Wo (by exact ⟨zs,s4,lv,ML,fun i=>by rw [gq.mem_iff,hF.mem],gq.nodup_iff.2 hF.map.keys,gy,pq,Z,rfl⟩)
theorem Rc(b:Nat)(v:A3):BZ prog 92 #[I5 b] [[(b,.cells #[.pointer none,v] 112 (0,0))]] (fun r H'=>r= .tuple #[]/\H'=[[(b,.cells #[I5 b,v] 112 (0,0))]]):=by
 refine Se func92 ntmps92 [0] ?_;intro u R;refine A0<|Zm Y<|Zp Y V<|Zh 0 SZ V rfl eh Y<|Zl isAgg109 Y<|Zv (Jz fp Y Y)<|A5<|AU Y (fun m=>?_) (fun m=>?_);·
  refine Zg<|Zm Y<|Zm Y<|Zo Wh (ZN (c:=#[.pointer none,v]) fp underlying249 (V:Tryz.prog.info? 112=some Tryz.t112) AW (Nat.zero_lt_succ 1) Y) ?_;refine Kz (sP (vs:=[_]) (e:=Extern.AbiNoEscape.same) func150 AE AE AE AE Y Y) V rfl<|Zo Wh (Uq underlying249 fp (V:Tryz.prog.info? 112=some Tryz.t112) (show liesAt _ _ _ (2/_) 0 _ 1=true from by kernel_rfl) Y) ?_;refine Zp Y V<|Zh 0 SZ V rfl eh Y<|Xe (Zs eh Y Y V)<|Z0<|Cw V results92 (by exact ⟨V,V⟩)
 cases m
theorem Ma(b:Nat)(v:A3):BZ prog 92 #[I5 b] [[(b,.cells #[I5 b,v] 112 (0,0))]] (fun r H'=>r= .tuple #[]/\H'=[[(b,.cells #[I5 b,v] 112 (0,0))]]):=by
 refine Se func92 ntmps92 [0] ?_;intro u R;refine A0<|Zm Y<|Zp Y V<|Zh 0 SZ V rfl eh Y<|Zl isAgg109 Y<|Zv (Be fp Y Y)<|A5<|AU Y (fun m=>by cases m)<|fun m=>A0<|Zm Y<|Zp Y V<|Zh 0 SZ V rfl eh Y<|Zl isAgg109 Y<|Zm Y<|Kz (TU fp (V:Tryz.prog.info? 112=some Tryz.t112) Y Y) V rfl ?_;refine A5<|D9 Y<|AC<|Cw V results92 (by exact ⟨V,V⟩)
theorem JY(b:Nat)(v:A3)(l x:List UInt8)(I:List A9)(m:Row 5 v (l.map u8v) I)(h0:0<x.length)(hb:l.length+x.length<=1099511627776):BZ prog 37 #[I5 b,.string (str x)] [[(b,.cells #[.pointer none,v] 112 (0,0))],I] (fun r H'=>∃J G U,Row 5 J ((l++x).map u8v) G/\r=U/\H'=[[(b,.cells #[I5 b,J] 112 (0,0))],G]):=by
 have O:=mL;obtain ⟨gv,Z,rfl⟩:=m.form;refine Se func37 ntmps37 [0,1] ?_;intro u R;refine A0<|Za Y<|A4 Y<|A0<|Zm Y<|Zc [_] Y call92 Y V (Rc b _) ?_;rintro _ _ ⟨_,⟨rfl,rfl⟩,rfl⟩;refine A5<|A0<|Zm Y<|Zm Y<|Zp Y V<|Zh 1 SZ V rfl Of Y<|Zl Ss Y<|Zm Y<|Ze (OX (by_:=1) HM H4 (V:Tryz.prog.info? 5=some Tryz.t5) V rfl V rfl Y m Y Wo A1 (by(rw [B8];omega)) (by(rw [B8];omega))) ?_;rintro _ _ ⟨W,B,rfl⟩;obtain ⟨gq,X,rfl⟩:=B.form;refine Zp Y V<|Zh 1 SZ V rfl Of Y<|Xe (Zs Of Y Y V)<|Z0<|Zn [1] ?_;refine Zx<|A0<|Zm Y<|Zv (QT H4 Y)<|Za Y<|A4 Y<|AJ<|Cv rfl results37 Y Y (by exact ⟨_,W,_,(by rw [C2];exact B),rfl,rfl⟩)
theorem Px(b:Nat)(v:A3)(l x:List UInt8)(I:List A9)(m:Row 5 v (l.map u8v) I)(h0:0<x.length)(hb:l.length+x.length<=1099511627776):BZ prog 37 #[I5 b,.string (str x)] [[(b,.cells #[I5 b,v] 112 (0,0))],I] (fun r H'=>∃J G U,Row 5 J ((l++x).map u8v) G/\r=U/\H'=[[(b,.cells #[I5 b,J] 112 (0,0))],G]):=by
 have O:=mL;obtain ⟨gv,Z,rfl⟩:=m.form;refine Se func37 ntmps37 [0,1] ?_;intro u R;refine A0<|Za Y<|A4 Y<|A0<|Zm Y<|Zc [_] Y call92 Y V (Ma b _) ?_;rintro _ _ ⟨_,⟨rfl,rfl⟩,rfl⟩;refine A5<|A0<|Zm Y<|Zm Y<|Zp Y V<|Zh 1 SZ V rfl Of Y<|Zl Ss Y<|Zm Y<|Ze (OX (by_:=1) HM H4 (V:Tryz.prog.info? 5=some Tryz.t5) V rfl V rfl Y m Y Wo A1 (by(rw [B8];omega)) (by(rw [B8];omega))) ?_;rintro _ _ ⟨W,B,rfl⟩;obtain ⟨gq,X,rfl⟩:=B.form;refine Zp Y V<|Zh 1 SZ V rfl Of Y<|Xe (Zs Of Y Y V)<|Z0<|Zn [1] ?_;refine Zx<|A0<|Zm Y<|Zv (QT H4 Y)<|Za Y<|A4 Y<|AJ<|Cv rfl results37 Y Y (by exact ⟨_,W,_,(by rw [C2];exact B),rfl,rfl⟩)
theorem OI(b g cap:Nat)(p:A3)(l:List UInt8)(cur:AH)(z:Nat×Nat)(h0:0<l.length)(hc:cap≠0)(B:l.length<=9223372036854775807)(m:cur.toList.take l.length=l.map u8v):BZ prog 41 #[I5 b] [[(b,.cells #[p,I6 g l.length cap] 112 (0,0))],[(g,.cells cur 5 z)]] (fun r H'=>r= .string (str l)/\H'=[[(b,.cells #[p,I6 g l.length cap] 112 (0,0))]]):=by
 refine Se func41 ntmps41 [0] ?_;intro u R;refine A0<|A4 Y<|Zq<|Az (n:=12) (0::1::3::7::15::0::32::96::224::480::1023::2047::[]) 1040 AE AE V<|A2 0 V (AP Y)<|A2 1 V (Ap Y V)<|A2 2 V (AB (off:=1) SZ V rfl Of Y)<|B9 3 V Ss Y<|A2 5 V (AP Y)<|A2 6 V (Ap Y V)<|A2 7 V (AB (off:=1) SZ V rfl Of Y)<|B9 8 V Ss Y<|A2 9 V (AY HM Y)<|Zz (l:=[4])<|B5 [true,false] [(8,(_,_))] V rfl (YP Y hc) ?_ (fun _ _ h=>h.elim) Ah;rintro _ _ ⟨rfl,rfl⟩;refine BT<|Yw 10 2047 V (Rz (l:=l) underlying188 AE Y Y (List.ne_nil_of_length_pos h0) B Wo m)<|D4<|A2 11 V (Aw Y)<|Ag<|Zn [2] ?_;refine Zx<|AJ<|AO V results41 Y (by exact ⟨V,V⟩)
def GI(k:Int):List UInt8:=if k=1 then [114,111,119]else if k=2 then [114,111,119,115]else if k=3 then [99,111,117,110,116]else if k=4 then [115,117,109]else if k=5 then [109,105,110]else if k=6 then [109,97,120]else [106,111,105,110]
def FN(k:Int):List Nat:=if k=1 then [1,3]else if k=2\/k=3 then [1,2,3,4]else if k=7 then [5,6,1,2,3,4]else [5,1,2,3,4]
def Xq(k:Int):Nat:=if k=1 then 88 else if k=2\/k=3 then 89 else if k=7 then 91 else 90
def Gz(k:Int)(i:Int):List UInt8:=if i=1 then(if k=4\/k=5\/k=6 then [111,102]else if k=7 then [116,111]else [])else if i=2/\k=7 then [111,102]else []
def Nc(k:Int)(g1 g7:Nat):A3:=if k=7 then .map (some g7)else if k=4\/k=5\/k=6 then .map (some g1)else .map none
def IR(q:QM)(o:Nat):Int:=if o=1 then q.tb else if o=2 then q.cl else if o=3 then q.lo else if o=4 then q.hi else if o=5 then q.bq else q.ot
def M5(l x:List UInt8):List UInt8:=l++32::x
def K3(q:QM)(l:List UInt8)(i:Nat):List UInt8:=if Gz q.kd i=[]then l else M5 l (Gz q.kd i)
def upP(q:QM):Nat->List UInt8
 |0=>GI q.kd
 |i+1=>M5 (K3 q (upP q i) i) (Lib.itoa (IR q ((FN q.kd).getD i 0)))
theorem KC(q:QM)(i:Nat):upP q (i+1)=M5 (K3 q (upP q i) i) (Lib.itoa (IR q ((FN q.kd).getD i 0))):=rfl
def CJ(q:QM):List UInt8:=upP q (FN q.kd).length
theorem yg(k:Int):(FN k).length<=6:=by
 unfold FN;split;· decide
 · split
   · decide
   · split<;>decide
theorem Xp(k:Int):0<(FN k).length:=by
 unfold FN;split;· decide
 · split
   · decide
   · split<;>decide
theorem ut(k:Int):∀o∈FN k,o<=6:=by
 unfold FN;split;· decide
 · split
   · decide
   · split<;>decide
theorem uu(k:Int):∀o∈FN k,1<=o:=by
 unfold FN;split;· decide
 · split
   · decide
   · split<;>decide
theorem tQ:∀(k u:Nat),1<=k->u<10^k->Lib.nDigits u<=k
 |0,_,h,_=>by omega
 |k+1,u,_,h=>by
  by_cases m:u<10
  · rw [Lib.nDigits_small m];omega
  · rw [Lib.nDigits_big m]
    have B:1<=k:=by
     rcases RC k with rfl|h2
     · simp at h;omega
     · exact h2
    have:=tQ k (u/10) B (by rw [fm]at h;omega);omega
theorem Tw(n:Int)(h:-9223372036854775808<=n/\n<=9223372036854775807):0<(Lib.itoa n).length/\(Lib.itoa n).length<=21:=by
 unfold Lib.itoa;split
 · rw [Dd,Lib.decDigits_length]
   have:=tQ 20 n.natAbs AW A1;omega
 · rw [Lib.decDigits_length]
   have:=tQ 20 n.toNat AW A1;have:=Lib.nDigits_pos n.toNat
   omega
theorem PX(k i:Int):(Gz k i).length<=2:=by
 unfold Gz;split
 · split
   · decide
   · split<;>decide
 · split<;>decide
theorem YO(k:Int):0<(GI k).length/\(GI k).length<=5:=by
 unfold GI;split;· decide
 · split
   · decide
   · split
     · decide
     · split
       · decide
       · split
         · decide
         · split<;>decide
theorem Kl{q:QM}(m:∀o,-9223372036854775808<=IR q o/\IR q o<=9223372036854775807):∀i,0<(upP q i).length/\(upP q i).length<=5+25*i
 |0=>by
  have:=YO q.kd;unfold upP;omega
 |i+1=>by
  have h:=Kl m i;have B:=Tw _ (m ((FN q.kd).getD i 0))
  have h2:=PX q.kd i;unfold upP K3 M5;rw [BW,Dd];split;· omega
  · rw [BW,Dd];omega
theorem PO(q:QM)(l:List UInt8)(i:Nat):(K3 q l i).length<=l.length+3:=by
 have:=PX q.kd i;unfold K3 M5;split;· omega
 · rw [BW,Dd];omega
theorem xH{q:QM}(h:BF q)(o:Nat):-9223372036854775808<=IR q o/\IR q o<=9223372036854775807:=by
 obtain ⟨m,h2,B,G⟩:=h;unfold IR;split;· omega
 · split
   · omega
   · split
     · omega
     · split
       · omega
       · split<;>omega
theorem jc(q:QM){o:Nat}(m:1<=o)(h2:o<=6):(q.A98:AH)[o]?=some (I4 (IR q o)):=by
 rcases (by omega:o=1\/o=2\/o=3\/o=4\/o=5\/o=6)with rfl|rfl|rfl|rfl|rfl|rfl<;>rfl
theorem NA(n:Int)(hn:-9223372036854775808<=n/\n<=9223372036854775807)(Tp:AK)(zp:Nat×Nat):BB prog 40 #[I4 n] [[(1,.cells (Lib.pow10Tab.map fun z=>Value.int .u64 z).toArray Tp zp)]] (.string (str (Lib.itoa n))):=fun u R w hs=>by
 have hg:=hs.get (1,.cells (Lib.pow10Tab.map fun z=>Value.int .u64 z).toArray Tp zp) B4;refine (Tryz.strconv_Itoa n hn.1 hn.2 w ?_).mono ?_
 · unfold Lib.TabIs World.var?
   rw [show Tryz.prog.globalNamed "internal/strconv.uint64pow10"=some 1 by kernel_rfl];simp only [KK,hg]
 · rintro e w' ⟨rfl,k,os,rfl⟩
   exact .inl ⟨_,_,V,⟨V,V⟩,SY hs k os⟩
theorem XV{P:Program}{α:Type}{κ:α->A3}{D:α->Prop}{k:α}{env:Env}{d:Option Nat}{ty:AK}{pos:String}{af:Array Edge}{g:Option (Nat×Bool)}{t kt G:AK}{m x:Operand}{z:A3}(I:Fv P kt κ D)(O:P.underlying t=some (.map kt G))(hz:∀w:AD,(zeroValue G).run P w= .ok z w)(J:D k)(hx:∀a,ev a env m= .map none)(hy:∀a,ev a env x=κ k):
 OpP P ⟨d,.lookup t m x true,ty,pos,af,g⟩ env [] (.tuple #[z,.bool false]):=fun a w U=>by
 show((do pure (Next.value (<-Instr.lookup t (ev a env m) (ev a env x) true))):Sem Next).run P w=_;rw [hx a,hy a];have B:(Instr.findKey kt (κ k) []).run P w= .ok none w:=by
  rcases IB I (EW κ) (fun p h=>by cases h) w k J with⟨B,_⟩|⟨j,v,_,h2⟩
  · exact B
  · simp at h2
 simp only [Instr.lookup,Sem.run_bind,run_underlying O,Result.andThen,F3 I J,Sem.run_pure,B,hz];rfl
theorem lS(bq:Nat):BZ prog 88 #[I5 bq] [] (fun r H'=>∃s,Row 121 r (([1,3]:List Nat).map fun o=> .pointer (some ⟨bq,o,none⟩)) s/\H'=[s]):=by
 refine Se func88 ntmps88 [0] ?_;intro u R;refine A0<|A4 Y<|Zq<|Az (n:=8) (0::1::3::0::8::24::63::127::[]) 64 AE AE V<|A2 0 V (AP Y)<|A2 1 V (Ap Y V)<|A2 2 V (AB (off:=1) CT V rfl A6 Y)<|A2 3 V (AP Y)<|A2 4 V (Ap Y V)<|A2 5 V (AB (off:=3) CT V rfl A6 Y)<|Zz (l:=[6])<|B5 [] [] V rfl (Ai (vs:=[_,_]) (cs:=[_,_]) S1 Tr Xs Y V rfl V rfl V) ?_ (fun _ _ h=>h.elim) Ah;rintro _ _ ⟨g,rfl,rfl⟩;refine BT<|A2 7 V (Aw Y)<|Ag<|Zx<|AJ<|AO V results88 Y (by exact ⟨_,Je _ g [.pointer (some ⟨bq,1,none⟩),.pointer (some ⟨bq,3,none⟩)] 2 V AW,V⟩)
theorem Ia(bq:Nat):BZ prog 89 #[I5 bq] [] (fun r H'=>∃s,Row 121 r (([1,2,3,4]:List Nat).map fun o=> .pointer (some ⟨bq,o,none⟩)) s/\H'=[s]):=by
 refine Se func89 ntmps89 [0] ?_;intro u R;refine A0<|A4 Y<|Zq<|Az (n:=14) (0::1::3::0::8::24::0::64::192::0::512::1536::4095::8191::[]) 4096 AE AE V<|A2 0 V (AP Y)<|A2 1 V (Ap Y V)<|A2 2 V (AB (off:=1) CT V rfl A6 Y)<|A2 3 V (AP Y)<|A2 4 V (Ap Y V)<|A2 5 V (AB (off:=2) CT V rfl A6 Y)<|A2 6 V (AP Y)<|A2 7 V (Ap Y V)<|A2 8 V (AB (off:=3) CT V rfl A6 Y)<|A2 9 V (AP Y)<|A2 10 V (Ap Y V)<|A2 11 V (AB (off:=4) CT V rfl A6 Y)<|Zz (l:=[12])<|B5 [] [] V rfl (Ai (vs:=[_,_,_,_]) (cs:=[_,_,_,_]) S1 Tr Xs Y V rfl V rfl V) ?_ (fun _ _ h=>h.elim) Ah;rintro _ _ ⟨g,rfl,rfl⟩;refine BT<|A2 13 V (Aw Y)<|Ag<|Zn [2] ?_;refine Zx<|AJ<|AO V results89 Y (by exact ⟨_,Je _ g [.pointer (some ⟨bq,1,none⟩),.pointer (some ⟨bq,2,none⟩),.pointer (some ⟨bq,3,none⟩),.pointer (some ⟨bq,4,none⟩)] 4 V AW,V⟩)
theorem pQ(bq:Nat):BZ prog 90 #[I5 bq] [] (fun r H'=>∃s,Row 121 r (([5,1,2,3,4]:List Nat).map fun o=> .pointer (some ⟨bq,o,none⟩)) s/\H'=[s]):=by
 have W:=mL;refine Se func90 ntmps90 [0] ?_;intro u R;refine A0<|A4 Y<|Zq<|Az (n:=8) (0::1::3::7::0::16::63::127::[]) 104 AE AE V<|A2 0 V (AP Y)<|A2 1 V (Ap Y V)<|A2 2 V (AB (off:=5) CT V rfl A6 Y)<|A2 4 V (AP Y)<|Zz (l:=[3,5])<|B5 [] [] V rfl (Ai (vs:=[_]) (cs:=[_]) S1 Tr Xs Y V rfl V rfl V) ?_ (fun _ _ h=>h.elim) ?_;·
  rintro _ _ ⟨g,rfl,rfl⟩;refine BT<|Zz (l:=[5])<|B5 [] [] V rfl (Zw [_] Y call89 Y V (Ia bq)) ?_ Bw Ah;rintro _ _ ⟨_,⟨s2,B,rfl⟩,rfl⟩;refine ⟨Aa,?_⟩;obtain ⟨U,O,rfl⟩:=B.form;refine Yw 6 127 V (Gs (by_:=8) S1 (V:Tryz.prog.info? 121=some Tryz.t121) V rfl V rfl Y ((Je _ g [.pointer (some ⟨bq,5,none⟩)] 1 V AW)) Y (B) Wo Wo GP (by((simp;omega))) (by((simp;done)))) ?_;rintro _ _ ⟨J,m,rfl⟩;obtain ⟨I,G,rfl⟩:=m.form;refine A2 7 V (Aw Y)<|Ag<|Zx<|AJ<|AO V results90 Y (by exact ⟨_,m,V⟩)
 refine B5 [] [] V rfl (Zw [_] Y call89 Y V (Ia bq)) ?_ Bw Ah;rintro _ _ ⟨_,⟨s2,B,rfl⟩,rfl⟩;refine ⟨Aa,?_⟩;obtain ⟨U,O,rfl⟩:=B.form;refine Yw 3 63 V (Ai (vs:=[_]) (cs:=[_]) S1 Tr Xs Y V rfl V rfl V)<|AG fun g=>Yw 6 127 V (Gs (by_:=8) S1 (V:Tryz.prog.info? 121=some Tryz.t121) V rfl V rfl Y ((Je _ g [.pointer (some ⟨bq,5,none⟩)] 1 V AW)) Y (B) Wo Wo GP (by((simp;omega))) (by((simp;done)))) ?_;rintro _ _ ⟨J,m,rfl⟩;obtain ⟨I,G,rfl⟩:=m.form;refine A2 7 V (Aw Y)<|Ag<|Zx<|AJ<|AO V results90 Y (by exact ⟨_,m,V⟩)
theorem gZ(bq:Nat):BZ prog 91 #[I5 bq] [] (fun r H'=>∃s,Row 121 r (([5,6,1,2,3,4]:List Nat).map fun o=> .pointer (some ⟨bq,o,none⟩)) s/\H'=[s]):=by
 have W:=mL;refine Se func91 ntmps91 [0] ?_;intro u R;refine A0<|A4 Y<|Zq<|Az (n:=11) (0::1::3::0::8::24::63::0::128::511::1023::[]) 832 AE AE V<|A2 0 V (AP Y)<|A2 1 V (Ap Y V)<|A2 2 V (AB (off:=5) CT V rfl A6 Y)<|A2 3 V (AP Y)<|A2 4 V (Ap Y V)<|A2 5 V (AB (off:=6) CT V rfl A6 Y)<|A2 7 V (AP Y)<|Zz (l:=[6,8])<|B5 [] [] V rfl (Ai (vs:=[_,_]) (cs:=[_,_]) S1 Tr Xs Y V rfl V rfl V) ?_ (fun _ _ h=>h.elim) ?_;·
  rintro _ _ ⟨g,rfl,rfl⟩;refine BT<|Zz (l:=[8])<|B5 [] [] V rfl (Zw [_] Y call89 Y V (Ia bq)) ?_ Bw Ah;rintro _ _ ⟨_,⟨s2,B,rfl⟩,rfl⟩;refine ⟨Aa,?_⟩;obtain ⟨U,O,rfl⟩:=B.form;refine Yw 9 1023 V (Gs (by_:=8) S1 (V:Tryz.prog.info? 121=some Tryz.t121) V rfl V rfl Y ((Je _ g [.pointer (some ⟨bq,5,none⟩),.pointer (some ⟨bq,6,none⟩)] 2 V AW)) Y (B) Wo Wo GP (by((simp;omega))) (by((simp;done)))) ?_;rintro _ _ ⟨J,m,rfl⟩;obtain ⟨I,G,rfl⟩:=m.form;refine A2 10 V (Aw Y)<|Ag<|Zx<|AJ<|AO V results91 Y (by exact ⟨_,m,V⟩)
 refine B5 [] [] V rfl (Zw [_] Y call89 Y V (Ia bq)) ?_ Bw Ah;rintro _ _ ⟨_,⟨s2,B,rfl⟩,rfl⟩;refine ⟨Aa,?_⟩;obtain ⟨U,O,rfl⟩:=B.form;refine Yw 6 511 V (Ai (vs:=[_,_]) (cs:=[_,_]) S1 Tr Xs Y V rfl V rfl V)<|AG fun g=>Yw 9 1023 V (Gs (by_:=8) S1 (V:Tryz.prog.info? 121=some Tryz.t121) V rfl V rfl Y ((Je _ g [.pointer (some ⟨bq,5,none⟩),.pointer (some ⟨bq,6,none⟩)] 2 V AW)) Y (B) Wo Wo GP (by((simp;omega))) (by((simp;done)))) ?_;rintro _ _ ⟨J,m,rfl⟩;obtain ⟨I,G,rfl⟩:=m.form;refine A2 10 V (Aw Y)<|Ag<|Zx<|AJ<|AO V results91 Y (by exact ⟨_,m,V⟩)
def U6(g1 g7:Nat):List (Int×A3):=[(1,.agg #[.string ⟨#[114,111,119]⟩,.func (.func 88) #[] #[],.map none]),(2,.agg #[.string ⟨#[114,111,119,115]⟩,.func (.func 89) #[] #[],.map none]),(3,.agg #[.string ⟨#[99,111,117,110,116]⟩,.func (.func 89) #[] #[],.map none]),(4,.agg #[.string ⟨#[115,117,109]⟩,.func (.func 90) #[] #[],.map (some g1)]),(5,.agg #[.string ⟨#[109,105,110]⟩,.func (.func 90) #[] #[],.map (some g1)]),(6,.agg #[.string ⟨#[109,97,120]⟩,.func (.func 90) #[] #[],.map (some g1)]),(7,.agg #[.string ⟨#[106,111,105,110]⟩,.func (.func 91) #[] #[],.map (some g7)])]
theorem ak{m B:Nat}(h:∀p,p∈lm↔p∈U6 m B)(hn:(lm.map (·.1)).Nodup){k:Int}(G:1<=k/\k<=7):EK k lm=some (.agg #[.string (str (GI k)),.func (.func (Xq k)) #[] #[],Nc k m B]):=by
 have I:∀{k:Int} {v:A3},(k,v)∈U6 m B->EK k lm=some v:=fun G=>Cy hn ((h _).2 G);obtain h9|h9|h9|h9|h9|h9|h9:k=1\/k=2\/k=3\/k=4\/k=5\/k=6\/k=7:=by omega
 all_goals subst h9
 all_goals exact I (by simp [U6,Xq,GI,Nc,str])
structure wU(l1 l7:List (Int×A3)):Prop where
 a:∀p,p∈l1↔p=(1,.string ⟨#[111,102]⟩)
 b:∀p,p∈l7↔p=(2,.string ⟨#[111,102]⟩)\/p=(1,.string ⟨#[116,111]⟩)
theorem WM(k:Int)(m B:Nat):(Nc k m B).oneCell'=true:=by
 unfold Nc;split;· rfl
 · split<;>rfl
theorem sN{env:Env}{d:Option Nat}{ty:AK}{pos:String}{af:Array Edge}{g:Option (Nat×Bool)}{m x:Operand}{q:QM}(hq:1<=q.kd/\q.kd<=7){W X:Nat}{e1 e7:Array MapEntry}{c1 c7:Nat}{l1 l7:List (Int×A3)}(h1:Cm (fun n:Int=>Value.int .i64 n) e1 c1 l1)(Z:Cm (fun n:Int=>Value.int .i64 n) e7 c7 l7)(J:wU l1 l7){i:Nat}(hx:∀a,ev a env m=Nc q.kd W X)(hy:∀a,ev a env x=I4 (i:Int)):
 OpP prog ⟨d,.lookup 85 m x true,ty,pos,af,g⟩ env [(W,.map e1 c1),(X,.map e7 c7)] (.tuple #[.string (str (Gz q.kd i)),.bool (decide (Gz q.kd i≠[]))]):=by
 have hz:=Hs;have hu:=eS
 by_cases B:q.kd=7
 · have cu:∀a,ev a env m= .map (some X):=fun a=>by rw [hx a];unfold Nc;rw [Ax B]
   have:=EC (d:=d) (ty:=ty) (pos:=pos) (af:=af) (g:=g) (v0:= .string (str (Gz q.kd i))) (b0:=decide (Gz q.kd i≠[])) (CY CM (D:=fun _=>True)) hu hz Z (fun _ _=>trivial) trivial (k:=(i:Int)) (by
    unfold Gz;rw [B];by_cases I:(i:Int)=1;· rw [I,Cy Z.keys ((J.b (1,_)).2 (.inr rfl))];exact ⟨rfl,rfl⟩
    · by_cases a2:(i:Int)=2
      · rw [a2,Cy Z.keys ((J.b (2,_)).2 (.inl rfl))];exact ⟨rfl,rfl⟩
      · rw [Da fun p hp O=>by rcases (J.b p).1 hp with rfl|rfl<;>simp at O<;>omega,An I,An A1];exact ⟨rfl,rfl⟩) cu hy
   exact fun a w U=>this a w fun c hc=>U c (by rw [C1.1 hc];simp)
 · by_cases G:q.kd=4\/q.kd=5\/q.kd=6
   · have bn:∀a,ev a env m= .map (some W):=fun a=>by rw [hx a];unfold Nc;rw [An B,Ax G]
     have:=EC (d:=d) (ty:=ty) (pos:=pos) (af:=af) (g:=g) (v0:= .string (str (Gz q.kd i))) (b0:=decide (Gz q.kd i≠[])) (CY CM (D:=fun _=>True)) hu hz h1 (fun _ _=>trivial) trivial (k:=(i:Int)) (by
      unfold Gz;by_cases I:(i:Int)=1;· rw [Ax I,Ax G,I,Cy h1.keys ((J.a (1,_)).2 rfl)];exact ⟨rfl,rfl⟩
      · rw [Da fun p hp O=>by rw [(J.a p).1 hp]at O;simp at O;omega,An I,An A1];exact ⟨rfl,rfl⟩) bn hy
     exact fun a w U=>this a w fun c hc=>U c (by rw [C1.1 hc];simp)
   · have ax:∀a,ev a env m= .map none:=fun a=>by rw [hx a];unfold Nc;rw [An B,An G]
     have hg:Gz q.kd i=[]:=by
      unfold Gz;rw [An G,An B];split;· rfl
      · split
        · rename_i h9;exact absurd h9.2 B
        · rfl
     rw [hg];have:=XV (d:=d) (ty:=ty) (pos:=pos) (af:=af) (g:=g) (CY CM (D:=fun _=>True)) hu hz (k:=(i:Int)) trivial ax hy
     exact fun a w U=>this a w fun c hc=>by cases hc
theorem U5:BZ prog 36 #[] [] (fun v H'=>∃b es ck lm m e1 c1 l1 B e7 c7 l7,v= .map (some b)/\Cm (fun n:Int=>Value.int .i64 n) es ck lm/\(∀p,p∈lm↔p∈U6 m B)/\Cm (fun n:Int=>Value.int .i64 n) e1 c1 l1/\Cm (fun n:Int=>Value.int .i64 n) e7 c7 l7/\wU l1 l7/\H'=[[(b,.map es ck)],[(m,.map e1 c1)],[(B,.map e7 c7)]]):=by
 refine Se func36 ntmps36 [] ?_;intro u R;refine A0<|A4 Y<|A0<|Ze (DX)<|AG fun m=>Ze (EI (CY CM (D:=fun _=>True)) eS (EW _) (fun _ _=>trivial) (trivial) Y Y Y Wo) ?_;rintro _ _ ⟨rfl,J,G,bn,U,Z,rfl⟩;refine Zm Y<|A4 Y<|A0<|Ze (DX)<|AG fun mb=>Zv (BL (vs:=[(0,.string ⟨#[114,111,119]⟩),(1,.func (.func 88) #[] #[]),(2,.map none)]) (cs:=#[.string ⟨#[114,111,119]⟩,.func (.func 88) #[] #[],.map none]) Y (AZ (pl:=#[(0,1),(1,1),(2,1)]) W3 Sh (fun _=>by kernel_rfl) AE))<|Ze (EI (CY CM (D:=fun _=>True)) cC (EW _) (fun _ _=>trivial) (trivial) Y Y Y Wo) ?_;rintro _ _ ⟨rfl,qw,q9,sJ,ek,kv,rfl⟩;refine Zv (BL (vs:=[(0,.string ⟨#[114,111,119,115]⟩),(1,.func (.func 89) #[] #[]),(2,.map none)]) (cs:=#[.string ⟨#[114,111,119,115]⟩,.func (.func 89) #[] #[],.map none]) Y (AZ (pl:=#[(0,1),(1,1),(2,1)]) W3 Sh (fun _=>by kernel_rfl) AE))<|Ze (EI (CY CM (D:=fun _=>True)) cC ek (fun _ _=>trivial) (trivial) Y Y Y Wo) ?_;rintro _ _ ⟨rfl,qx,qa,sM,gm,l5,rfl⟩;refine Zv (BL (vs:=[(0,.string ⟨#[99,111,117,110,116]⟩),(1,.func (.func 89) #[] #[]),(2,.map none)]) (cs:=#[.string ⟨#[99,111,117,110,116]⟩,.func (.func 89) #[] #[],.map none]) Y (AZ (pl:=#[(0,1),(1,1),(2,1)]) W3 Sh (fun _=>by kernel_rfl) AE))<|Ze (EI (CY CM (D:=fun _=>True)) cC gm (fun _ _=>trivial) (trivial) Y Y Y Wo) ?_;rintro _ _ ⟨rfl,qz,qb,sO,gq,l8,rfl⟩;refine Zm Y<|Zv (BL (vs:=[(0,.string ⟨#[115,117,109]⟩),(1,.func (.func 90) #[] #[]),(2,.map (some m))]) (cs:=#[.string ⟨#[115,117,109]⟩,.func (.func 90) #[] #[],.map (some m)]) Y (AZ (pl:=#[(0,1),(1,1),(2,1)]) W3 Sh (fun _=>by kernel_rfl) AE))<|Ze (EI (CY CM (D:=fun _=>True)) cC gq (fun _ _=>trivial) (trivial) Y Y Y Wo) ?_;rintro _ _ ⟨rfl,r9,qj,ve,gy,l9,rfl⟩
 refine Zm Y<|Zv (BL (vs:=[(0,.string ⟨#[109,105,110]⟩),(1,.func (.func 90) #[] #[]),(2,.map (some m))]) (cs:=#[.string ⟨#[109,105,110]⟩,.func (.func 90) #[] #[],.map (some m)]) Y (AZ (pl:=#[(0,1),(1,1),(2,1)]) W3 Sh (fun _=>by kernel_rfl) AE))<|Ze (EI (CY CM (D:=fun _=>True)) cC gy (fun _ _=>trivial) (trivial) Y Y Y Wo) ?_;rintro _ _ ⟨rfl,sj,ql,vo,ic,o8,rfl⟩;refine Zm Y<|Zv (BL (vs:=[(0,.string ⟨#[109,97,120]⟩),(1,.func (.func 90) #[] #[]),(2,.map (some m))]) (cs:=#[.string ⟨#[109,97,120]⟩,.func (.func 90) #[] #[],.map (some m)]) Y (AZ (pl:=#[(0,1),(1,1),(2,1)]) W3 Sh (fun _=>by kernel_rfl) AE))<|Ze (EI (CY CM (D:=fun _=>True)) cC ic (fun _ _=>trivial) (trivial) Y Y Y Wo) ?_;rintro _ _ ⟨rfl,sw,qo,vw,j3,o9,rfl⟩;refine Ze (DX)<|AG fun B=>Ze (EI (CY CM (D:=fun _=>True)) eS (EW _) (fun _ _=>trivial) (trivial) Y Y Y Wo) ?_;rintro _ _ ⟨rfl,pq,pg,pz,W,af,rfl⟩;refine Ze (EI (CY CM (D:=fun _=>True)) eS W (fun _ _=>trivial) (trivial) Y Y Y Wo) ?_;rintro _ _ ⟨rfl,O,I,cu,X,ax,rfl⟩;refine Zm Y<|Zv (BL (vs:=[(0,.string ⟨#[106,111,105,110]⟩),(1,.func (.func 91) #[] #[]),(2,.map (some B))]) (cs:=#[.string ⟨#[106,111,105,110]⟩,.func (.func 91) #[] #[],.map (some B)]) Y (AZ (pl:=#[(0,1),(1,1),(2,1)]) W3 Sh (fun _=>by kernel_rfl) AE))<|Ze (EI (CY CM (D:=fun _=>True)) cC j3 (fun _ _=>trivial) (trivial) Y Y Y Wo) ?_;rintro _ _ ⟨rfl,d9,cO,p9,j5,p8,rfl⟩;refine Zm Y<|AN Y<|Zn [0] ?_;refine Zx<|AJ<|AO V results36 Y (by
  refine ⟨mb,d9,cO,p9,m,J,G,bn,B,O,I,cu,V,j5,fun p=>?_,U,X,⟨fun p=>?_,fun p=>?_⟩,V⟩
  · rw [p8,o9,o8,l9,l8,l5,kv]
    simp only [U6,DB,RR,PF,ij];constructor;· rintro (rfl|⟨rfl|⟨rfl|⟨rfl|⟨rfl|⟨rfl|⟨rfl,-⟩,-⟩,-⟩,-⟩,-⟩,-⟩)<;>simp
    · rintro (h|h|h|h|h|h|h)<;>subst h<;>simp
  · rw [Z];simp
  · rw [ax,af];simp only [RR,ij,PF]
    constructor
    · rintro (rfl|⟨rfl,-⟩)
      · exact .inl rfl
      · exact .inr rfl
    · rintro (rfl|rfl)
      · exact .inl rfl
      · exact .inr ⟨rfl,by simp⟩)
end Go.Proofs.YtfhjaegddfehhabGreatDoor
